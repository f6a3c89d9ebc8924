import PyProof.Rows.All
import Wide.All
import OpenK.AllK
import Wide.FinOn
import HandS.ForMost
import HandS.Exc
import HandS.ExcOwn
import HandS.WordsExc
import HandS.Wide
import HandS.TupAny
import HandS.Deep
import KE.KeyNested
import HandS.TupLen
import KE.KDictKeyed
import KE.GoesDict
import HandS.SortOrd
import KE.KDictDisplayH
import PyProof.DictKeyH
import PyProof.DictRoadsH
import PyProof.DictMoreH
import KE.SortData
import HandS.TupMul
import KE.KDictSum
import HandS.More
import HandS.TupLe
import HandS.IsInst
import KE.DataCmp
import HandS.CallSlots
import HandS.Zip
import HandS.Style
import HandS.TryMany
import HandS.ExcIs
import HandS.ExcField
import HandS.ExcInit
import HandS.ClsMeth
import HandS.Defaults
import HandS.SetFor
import PyProof.ExcBaseAll.ValueError
import KE.KStateDown
import HandS.Head0
import HandS.Head1
import HandS.Head2
import HandS.HeadEnd
import HandS.HeadHook1
import HandS.HeadHook2
import KE.KSortTupAny
import PySem.Challenge.RW_fillchairs_k03_all_comers
set_option Elab.async false
set_option linter.all false
set_option maxRecDepth 100000
set_option maxHeartbeats 0
-- Ev1
/-! Ev1: the data of the evaluator: temporaries, slots, results; the IR; what a value stands for in a heap. -/
namespace Ev
open PySem L2

abbrev D := PyData
/-- the known objects and the world -/
structure Fw where
  K : PySem.W.Frag
  w : World
instance : CoeHead Fw PySem.W.Frag := ⟨Fw.K⟩
abbrev kx (X : Cx) : Fw := ⟨X.K, X.w⟩

/-- a temporary: shared data; a new object nobody else holds; the object of an owned slot -/
inductive Tm where
  | sh (d : D)
  | ow (d : D)
  | br (i : Nat)
  /-- forgotten -/
  | un
/-- an exception: its class's name, its fields -/
structure Ex where
  cls : Str
  fs : List (Str × D)
/-- a slot: empty; shared data; an object that it owns; the k-th list that the def may change -/
inductive Sl where
  | un
  | sh (d : D)
  | ow (d : D)
  | io (k : Nat) (d : D)
  /-- the exception that the suite holds -/
  | ex (x : Ex)
abbrev Rho := List Sl
inductive Res (α : Type) where
  | ok (a : α) (ρ : Rho)
  | exc (x : Ex) (ρ : Rho)
  | bad
/-- what a def gives: its value (new or shared), the lists that it changed -/
inductive FRes where
  | ok (own : Bool) (d : D) (ios : List D)
  | exc (x : Ex) (ios : List D)
  | bad
abbrev Fn := List D → FRes

def Sl.get : Sl → Option D
  | .un => none
  | .sh d => some d
  | .ow d => some d
  | .io _ d => some d
  | .ex _ => none
def slot (ρ : Rho) (i : Nat) : Option D := match ρ[i]? with
  | some s => s.get
  | none => none
def Tm.get (ρ : Rho) : Tm → Option D
  | .sh d => some d
  | .ow d => some d
  | .br i => slot ρ i
  | .un => none
/-- the owned object of a slot is shared from now on -/
def share (ρ : Rho) (i : Nat) : Option Rho := match ρ[i]? with
  | some (.ow d) => some (ρ.set i (.sh d))
  | some (.sh _) => some ρ
  | _ => none
def Tm.esc (ρ : Rho) : Tm → Option Rho
  | .br i => share ρ i
  | _ => some ρ

/-! ### keys of dicts: tuples of numbers, texts, None, tuples -/
mutual
def keyOf : D → Option NestedKey
  | .none => some .none
  | .int i => some (.num i)
  | .str x => some (.text x)
  | .tuple ds => match keysOf ds with
    | some ks => some (.tup ks)
    | none => none
  | _ => none
def keysOf : List D → Option (List NestedKey)
  | [] => some []
  | d :: ds => match keyOf d, keysOf ds with
    | some k, some ks => some (k :: ks)
    | _, _ => none
end
mutual
theorem keyOf_data : ∀ (d : D) (k : NestedKey), keyOf d = some k → k.data = d
  | .none, k, h => by simp only [keyOf] at h; cases h; rfl
  | .int i, k, h => by simp only [keyOf] at h; cases h; rfl
  | .str x, k, h => by simp only [keyOf] at h; cases h; rfl
  | .tuple ds, k, h => by
    simp only [keyOf] at h
    split at h
    · rename_i ks e
      cases h
      show PyData.tuple (NestedKey.datas ks) = _
      rw [keysOf_data ds ks e]
    · cases h
  | .bool _, k, h => by simp only [keyOf] at h; cases h
  | .list _, k, h => by simp only [keyOf] at h; cases h
  | .dict _, k, h => by simp only [keyOf] at h; cases h
theorem keysOf_data : ∀ (ds : List D) (ks : List NestedKey), keysOf ds = some ks → NestedKey.datas ks = ds
  | [], ks, h => by simp only [keysOf] at h; cases h; rfl
  | d :: ds, ks, h => by
    simp only [keysOf] at h
    split at h
    · rename_i k ks' e1 e2
      cases h
      show NestedKey.data k :: NestedKey.datas ks' = _
      rw [keyOf_data d k e1, keysOf_data ds ks' e2]
    · cases h
end
/-- a tuple that is a key -/
def keyT (d : D) : Option NestedKey := match d with
  | .tuple _ => match keyOf d with
    | some k => if k.depth ≤ 8 then some k else none
    | none => none
  | _ => none
theorem keyT_of {d : D} {k : NestedKey} (h : keyT d = some k) : keyOf d = some k ∧ k.depth ≤ 8 ∧ ∃ ds, d = .tuple ds := by
  unfold keyT at h
  split at h
  · rename_i ds
    split at h
    · rename_i k' e
      split at h
      · rename_i hd
        cases h
        exact ⟨e, hd, ds, rfl⟩
      · cases h
    · cases h
  · cases h
theorem keyT_inj {a b : D} {k : NestedKey} (ha : keyT a = some k) (hb : keyT b = some k) : a = b := (keyOf_data a k (keyT_of ha).1).symm.trans (keyOf_data b k (keyT_of hb).1)
/-- a dict that is only looked at from outside -/
def opq (kvs : List (D × D)) : Bool := kvs.any fun p => (keyT p.1).isNone
/-- a dict with such keys, at a -/
def dN (w : World) (a : Addr) (o : Obj) (es : List (NestedKey × Addr × V)) : HO := .ext fun h => es.length ≤ sizeLine ∧ (a == sysModules) = false ∧ (es.map (·.1)).Nodup ∧
  ∃ xs : List (NestedKey × Addr × Value), Paired (fun p q => p.1 = q.1 ∧ p.2.1 = q.2.1 ∧ RelV p.2.2 q.2.2) es xs ∧
    ∃ des ep, h.get? a = some o ∧ o.ExactDict ∧ o.data = .dict des ep ∧ des.toList = xs.map fun x => (⟨x.1.hash w, .ref x.2.1, x.2.2⟩ : DictEntry)
/-! ### what a value stands for -/
mutual
/-- v is the data d, by the view S -/
inductive Rp (K : Fw) (S : Hp) : V → D → Prop
  | non : Rp K S .non .none
  | bl (b : Bool) : Rp K S (.bl b) (.bool b)
  | int (i : Int) : Rp K S (.int i) (.int i)
  | str (x : Str) : Rp K S (.str x) (.str x)
  | lst {a : Addr} {xs : List V} {ds : List D} : SqL K S a xs → Rps K S xs ds → Rp K S (.ref a) (.list ds)
  | tup {a : Addr} {xs : List V} {ds : List D} : SqT K S a xs → Rps K S xs ds → Rp K S (.ref a) (.tuple ds)
  | dct {a : Addr} {o : Obj} {es : List (NestedKey × Addr × V)} {kvs : List (D × D)} : S a = some (dN K.w a o es) → Ents K S es kvs → Rp K S (.ref a) (.dict kvs)
  | odc {a : Addr} {kv : List (Key × V)} {kvs : List (D × D)} : S a = some (.dK kv) → opq kvs = true → Rp K S (.ref a) (.dict kvs)
inductive Rps (K : Fw) (S : Hp) : List V → List D → Prop
  | nil : Rps K S [] []
  | cons {v : V} {vs : List V} {d : D} {ds : List D} : Rp K S v d → Rps K S vs ds → Rps K S (v :: vs) (d :: ds)
/-- the entries of a dict -/
inductive Ents (K : Fw) (S : Hp) : List (NestedKey × Addr × V) → List (D × D) → Prop
  | nil : Ents K S [] []
  | cons {k : NestedKey} {b : Addr} {v : V} {kd d : D} {es : List (NestedKey × Addr × V)} {kvs : List (D × D)} : Rp K S (.ref b) kd → keyT kd = some k → Rp K S v d → Ents K S es kvs → Ents K S ((k, b, v) :: es) ((kd, d) :: kvs)
end

/-- H' has all of H -/
abbrev Ext (H H' : Hp) : Prop := Same H H'

theorem Ext.rd {H H' : Hp} {a : Addr} {u : HO} (e : Ext H H') (h : Rd H a u) : Rd H' a u := by
  rcases h with h | ⟨o, h⟩
  · exact .inl (e a _ h)
  · exact .inr ⟨o, e a _ h⟩
theorem Ext.l {K : Fw} {H H' : Hp} {a : Addr} {xs : List V} (e : Ext H H') (h : SqL K H a xs) : SqL K H' a xs := by
  rcases h with h | h
  · exact .inl (e.rd h)
  · exact .inr h
theorem Ext.t {K : Fw} {H H' : Hp} {a : Addr} {xs : List V} (e : Ext H H') (h : SqT K H a xs) : SqT K H' a xs := by
  rcases h with h | h
  · exact .inl (e.rd h)
  · exact .inr h
mutual
theorem Rp.ext {K : Fw} {H H' : Hp} (e : Ext H H') : ∀ {v : V} {d : D}, Rp K H v d → Rp K H' v d
  | _, _, .non => .non
  | _, _, .bl b => .bl b
  | _, _, .int i => .int i
  | _, _, .str x => .str x
  | _, _, .lst h r => .lst (e.l h) (Rps.ext e r)
  | _, _, .tup h r => .tup (e.t h) (Rps.ext e r)
  | _, _, .dct h r => .dct (e _ _ h) (Ents.ext e r)
  | _, _, .odc h r => .odc (e _ _ h) r
theorem Rps.ext {K : Fw} {H H' : Hp} (e : Ext H H') : ∀ {vs : List V} {ds : List D}, Rps K H vs ds → Rps K H' vs ds
  | _, _, .nil => .nil
  | _, _, .cons h r => .cons (Rp.ext e h) (Rps.ext e r)
theorem Ents.ext {K : Fw} {H H' : Hp} (e : Ext H H') : ∀ {es : List (NestedKey × Addr × V)} {kvs : List (D × D)}, Ents K H es kvs → Ents K H' es kvs
  | _, _, .nil => .nil
  | _, _, .cons h k v r => .cons (Rp.ext e h) k (Rp.ext e v) (Ents.ext e r)
end
mutual
theorem Rp.dp {K : Fw} {H : Hp} : ∀ {v : V} {d : D}, Rp K H v d → d.canLay0 = true → Dp K H v d
  | _, _, .non, _ => .non
  | _, _, .bl b, _ => .bl b
  | _, _, .int i, _ => .int i
  | _, _, .str x, _ => .str x
  | _, _, .lst h r, z => .lst h (Rps.dp r (by simpa [PyData.canLay0] using z))
  | _, _, .tup h r, z => .tup h (Rps.dp r (by simpa [PyData.canLay0] using z))
  | _, _, .dct _ _, z => by simp [PyData.canLay0] at z
  | _, _, .odc _ _, z => by simp [PyData.canLay0] at z
theorem Rps.dp {K : Fw} {H : Hp} : ∀ {vs : List V} {ds : List D}, Rps K H vs ds → PyData.canLayAll0 ds = true → DpAll K H vs ds
  | _, _, .nil, _ => .nil
  | _, _, .cons h r, z => by
    simp only [PyData.canLayAll0, Bool.and_eq_true] at z
    exact .cons (Rp.dp h z.1) (Rps.dp r z.2)
end
theorem Ents.opq {K : Fw} {S : Hp} : ∀ {es : List (NestedKey × Addr × V)} {kvs : List (D × D)}, Ents K S es kvs → Ev.opq kvs = false
  | _, _, .nil => rfl
  | _, _, .cons _ k _ r => by
    unfold Ev.opq
    rw [List.any_cons, k]
    exact Ents.opq r
theorem Rps.length {K : Fw} {S : Hp} : ∀ {vs : List V} {ds : List D}, Rps K S vs ds → vs.length = ds.length
  | _, _, .nil => rfl
  | _, _, .cons _ r => congrArg (· + 1) (Rps.length r)
theorem Rps.get {K : Fw} {S : Hp} : ∀ {vs : List V} {ds : List D} {i : Nat} {d : D}, Rps K S vs ds → ds[i]? = some d → ∃ v, vs[i]? = some v ∧ Rp K S v d
  | _, _, _, _, .nil, e => by simp at e
  | _, _, 0, _, .cons h _, e => by simp at e; subst e; exact ⟨_, rfl, h⟩
  | _, _, i + 1, _, .cons _ r, e => by
    obtain ⟨v, h1, h2⟩ := Rps.get (i := i) r (by simpa using e)
    exact ⟨v, by simpa using h1, h2⟩
theorem Rps.app {K : Fw} {S : Hp} : ∀ {vs ws : List V} {ds es : List D}, Rps K S vs ds → Rps K S ws es → Rps K S (vs ++ ws) (ds ++ es)
  | _, _, _, _, .nil, q => q
  | _, _, _, _, .cons h r, q => .cons h (Rps.app r q)
theorem Rps.take {K : Fw} {S : Hp} : ∀ {vs : List V} {ds : List D} (n : Nat), Rps K S vs ds → Rps K S (vs.take n) (ds.take n)
  | _, _, 0, _ => .nil
  | _, _, _ + 1, .nil => .nil
  | _, _, n + 1, .cons h r => .cons h (Rps.take n r)
theorem Rps.drop {K : Fw} {S : Hp} : ∀ {vs : List V} {ds : List D} (n : Nat), Rps K S vs ds → Rps K S (vs.drop n) (ds.drop n)
  | _, _, 0, r => r
  | _, _, _ + 1, .nil => .nil
  | _, _, n + 1, .cons _ r => Rps.drop n r
theorem Rps.set {K : Fw} {S : Hp} {v : V} {d : D} (h : Rp K S v d) : ∀ {vs : List V} {ds : List D} (i : Nat), Rps K S vs ds → Rps K S (vs.set i v) (ds.set i d)
  | _, _, _, .nil => .nil
  | _, _, 0, .cons _ r => .cons h r
  | _, _, i + 1, .cons q r => .cons q (Rps.set h i r)
theorem Rps.rev {K : Fw} {S : Hp} : ∀ {vs : List V} {ds : List D}, Rps K S vs ds → Rps K S vs.reverse ds.reverse
  | _, _, .nil => .nil
  | _, _, .cons h r => by
    rw [List.reverse_cons, List.reverse_cons]
    exact (Rps.rev r).app (.cons h .nil)

/-- the object at a is the data d, its parts by the view S -/
inductive OwnAt (K : Fw) (H S : Hp) (a : Addr) : D → Prop
  | lst {xs : List V} {ds : List D} : H a = some (.lst xs) → Rps K S xs ds → OwnAt K H S a (.list ds)
  | dct {o : Obj} {es : List (NestedKey × Addr × V)} {kvs : List (D × D)} : H a = some (dN K.w a o es) → Ents K S es kvs → OwnAt K H S a (.dict kvs)
theorem OwnAt.ext {K : Fw} {H H' S S' : Hp} {a : Addr} {d : D} (hs : Ext S S') (hh : ∀ o, H a = some o → H' a = some o) (h : OwnAt K H S a d) : OwnAt K H' S' a d := by
  cases h with
  | lst h r => exact .lst (hh _ h) (r.ext hs)
  | dct h r => exact .dct (hh _ h) (r.ext hs)
theorem OwnAt.there {K : Fw} {H S : Hp} {a : Addr} {d : D} (h : OwnAt K H S a d) : ∃ o, H a = some o := by
  cases h with
  | lst h r => exact ⟨_, h⟩
  | dct h r => exact ⟨_, h⟩
/-- .. is shared from now on -/
theorem OwnAt.rp {K : Fw} {H S S' : Hp} {a : Addr} {d : D} (hs : Ext S S') (hh : ∀ o, H a = some o → S' a = some o) (h : OwnAt K H S a d) : Rp K S' (.ref a) d := by
  cases h with
  | lst h r => exact .lst (.inl (.inl (hh _ h))) (r.ext hs)
  | dct h r => exact .dct (hh _ h) (r.ext hs)

/-- a caught exception: where it stands, its class, its own dict -/
structure Xa where
  a : Addr
  c : Str
  cls : Value
  dd : Option Addr
/-- an exception's own fields -/
inductive FsR (K : Fw) (S : Hp) : List (Str × V) → List (Str × D) → Prop
  | nil : FsR K S [] []
  | cons {f : Str} {v : V} {d : D} {vs : List (Str × V)} {ds : List (Str × D)} : Rp K S v d → FsR K S vs ds → FsR K S ((f, v) :: vs) ((f, d) :: ds)
theorem FsR.ext {K : Fw} {S S' : Hp} (e : Ext S S') : ∀ {vs : List (Str × V)} {ds : List (Str × D)}, FsR K S vs ds → FsR K S' vs ds
  | _, _, .nil => .nil
  | _, _, .cons h r => .cons (h.ext e) (FsR.ext e r)
theorem FsR.get {K : Fw} {S : Hp} {f : Str} {d : D} : ∀ {vs : List (Str × V)} {ds : List (Str × D)}, FsR K S vs ds → ds.lookup f = some d → ∃ v, vs.lookup f = some v ∧ Rp K S v d
  | _, _, .nil, h => by cases h
  | _, _, .cons (f := g) (v := v) (d := d') h r, q => by
    rw [List.lookup_cons] at q
    cases e : (f == g) with
    | true =>
      rw [e] at q
      cases q
      exact ⟨v, by rw [List.lookup_cons, e], h⟩
    | false =>
      rw [e] at q
      obtain ⟨v', h1, h2⟩ := FsR.get r q
      exact ⟨v', by rw [List.lookup_cons, e]; exact h1, h2⟩
/-- its dict by the view S -/
def ExD (K : Fw) (S : Hp) (x : Ex) (dd : Option Addr) : Prop := (x.fs = [] ∧ dd = none) ∨ ∃ p vs, dd = some p ∧ S p = some (.xd vs) ∧ FsR K S vs x.fs
theorem ExD.ext {K : Fw} {S S' : Hp} {x : Ex} {dd : Option Addr} (e : Ext S S') (h : ExD K S x dd) : ExD K S' x dd := by
  rcases h with h | ⟨p, vs, h1, h2, h3⟩
  · exact .inl h
  · exact .inr ⟨p, vs, h1, e _ _ h2, h3.ext e⟩
/-- the frame: the heap and the view at its entry, the addresses of the lists that it may change -/
structure Frm where
  Hin : Hp
  S0 : Hp
  io : List Addr
  xa : Option Xa := none
/-- a slot and what stands in it; the addresses that it owns -/
inductive SlR (K : Fw) (F : Frm) (H S : Hp) : Sl → Option V → List Addr → Prop
  | un (o : Option V) : SlR K F H S .un o []
  | sh {v : V} {d : D} : Rp K S v d → SlR K F H S (.sh d) (some v) []
  | ow {a : Addr} {d : D} : OwnAt K H S a d → F.Hin a = none → SlR K F H S (.ow d) (some (.ref a)) [a]
  | io {k : Nat} {a : Addr} {d : D} : OwnAt K H S a d → F.io[k]? = some a → SlR K F H S (.io k d) (some (.ref a)) [a]
  | ex {x : Ex} {c : Xa} : F.xa = some c → c.c = x.cls → ExD K S x c.dd → SlR K F H S (.ex x) (some (.ref c.a)) []
inductive SlRs (K : Fw) (F : Frm) (H S : Hp) : Rho → St → List Addr → Prop
  | nil : SlRs K F H S [] [] []
  | cons {s : Sl} {o : Option V} {as bs : List Addr} {ρ : Rho} {σ : St} : SlR K F H S s o as → SlRs K F H S ρ σ bs → SlRs K F H S (s :: ρ) (o :: σ) (as ++ bs)
/-- a temporary -/
inductive TmR (K : Fw) (F : Frm) (H S : Hp) (σ : St) : Tm → V → List Addr → Prop
  | sh {v : V} {d : D} : Rp K S v d → TmR K F H S σ (.sh d) v []
  | ow {a : Addr} {d : D} : OwnAt K H S a d → F.Hin a = none → TmR K F H S σ (.ow d) (.ref a) [a]
  | br {i : Nat} {v : V} : σ[i]? = some (some v) → TmR K F H S σ (.br i) v []
  | un (v : V) : TmR K F H S σ .un v []
inductive TmRs (K : Fw) (F : Frm) (H S : Hp) (σ : St) : List Tm → List V → List Addr → Prop
  | nil : TmRs K F H S σ [] [] []
  | cons {t : Tm} {v : V} {as bs : List Addr} {ts : List Tm} {vs : List V} : TmR K F H S σ t v as → TmRs K F H S σ ts vs bs → TmRs K F H S σ (t :: ts) (v :: vs) (as ++ bs)

/-- the state of a frame with temporaries -/
structure Cf (K : Fw) (F : Frm) (S : Hp) (ρ : Rho) (ts : List Tm) (σ : St) (vs : List V) (H : Hp) (as bs : List Addr) : Prop where
  sub : Ext S H
  s0 : Ext F.S0 S
  new : ∀ a o, S a = some o → (∃ o, F.S0 a = some o) ∨ F.Hin a = none
  keep : ∀ a o, F.Hin a = some o → a ∉ F.io → H a = some o
  iod : ∀ a ∈ F.io, ∃ o, H a = some o
  slots : SlRs K F H S ρ σ as
  tms : TmRs K F H S σ ts vs bs
  nd : (as ++ bs).Nodup
  out : ∀ a ∈ as ++ bs, S a = none
def Conf (K : Fw) (F : Frm) (ρ : Rho) (ts : List Tm) (σ : St) (vs : List V) (H : Hp) : Prop := ∃ S as bs, Cf K F S ρ ts σ vs H as bs
end Ev

-- Ev2
/-! Ev2: the state of a frame: temporaries are pushed, dropped, shared; slots are stored; objects change. -/
namespace Ev
open PySem L2

theorem none_of_ext {H H' : Hp} (e : Ext H H') {a : Addr} (h : H' a = none) : H a = none := by
  cases q : H a with
  | none => rfl
  | some o => rw [e a o q] at h; cases h
theorem ext_upd {H : Hp} {p : Addr} {o : HO} (h : H p = none) : Ext H (upd H p o) := fun b u e => by
  rw [upd_ne (ne_of_none e h)]
  exact e

section
variable {K : Fw} {F : Frm} {H H' S S' : Hp} {σ : St} {ρ : Rho} {ts : List Tm} {vs : List V} {as bs : List Addr}

theorem SlR.mono {s : Sl} {o : Option V} (hs : Ext S S') (h : SlR K F H S s o as) (hh : ∀ a ∈ as, ∀ o, H a = some o → H' a = some o) : SlR K F H' S' s o as := by
  cases h with
  | un => exact .un _
  | sh r => exact .sh (r.ext hs)
  | ow r n => exact .ow (r.ext hs (hh _ (by simp))) n
  | io r n => exact .io (r.ext hs (hh _ (by simp))) n
  | ex h1 h2 h3 => exact .ex h1 h2 (h3.ext hs)
theorem SlRs.mono (hs : Ext S S') : ∀ {ρ : Rho} {σ : St} {as : List Addr}, SlRs K F H S ρ σ as → (∀ a ∈ as, ∀ o, H a = some o → H' a = some o) → SlRs K F H' S' ρ σ as
  | _, _, _, .nil, _ => .nil
  | _, _, _, .cons h r, hh => .cons (h.mono hs fun a ha => hh a (List.mem_append_left _ ha)) (SlRs.mono hs r fun a ha => hh a (List.mem_append_right _ ha))
theorem TmR.mono {t : Tm} {v : V} (hs : Ext S S') (h : TmR K F H S σ t v as) (hh : ∀ a ∈ as, ∀ o, H a = some o → H' a = some o) : TmR K F H' S' σ t v as := by
  cases h with
  | sh r => exact .sh (r.ext hs)
  | ow r n => exact .ow (r.ext hs (hh _ (by simp))) n
  | br r => exact .br r
  | un v => exact .un v
theorem TmRs.mono (hs : Ext S S') : ∀ {ts : List Tm} {vs : List V} {as : List Addr}, TmRs K F H S σ ts vs as → (∀ a ∈ as, ∀ o, H a = some o → H' a = some o) → TmRs K F H' S' σ ts vs as
  | _, _, _, .nil, _ => .nil
  | _, _, _, .cons h r, hh => .cons (h.mono hs fun a ha => hh a (List.mem_append_left _ ha)) (TmRs.mono hs r fun a ha => hh a (List.mem_append_right _ ha))
theorem SlR.there {s : Sl} {o : Option V} (h : SlR K F H S s o as) : ∀ a ∈ as, ∃ o, H a = some o := by
  cases h with
  | un => exact fun a q => by simp at q
  | sh _ => exact fun a q => by simp at q
  | ow z _ => exact fun a q => by simp at q; subst q; exact z.there
  | io z _ => exact fun a q => by simp at q; subst q; exact z.there
  | ex _ _ _ => exact fun a q => by simp at q
theorem SlRs.there : ∀ {ρ : Rho} {σ : St} {as : List Addr}, SlRs K F H S ρ σ as → ∀ a ∈ as, ∃ o, H a = some o
  | _, _, _, .nil, _, h => by simp at h
  | _, _, _, .cons h r, a, ha => by
    rcases List.mem_append.mp ha with q | q
    · exact h.there a q
    · exact SlRs.there r a q
theorem TmRs.there : ∀ {ts : List Tm} {vs : List V} {as : List Addr}, TmRs K F H S σ ts vs as → ∀ a ∈ as, ∃ o, H a = some o
  | _, _, _, .nil, _, h => by simp at h
  | _, _, _, .cons h r, a, ha => by
    rcases List.mem_append.mp ha with q | q
    · cases h with
      | sh _ => simp at q
      | br _ => simp at q
      | un _ => simp at q
      | ow z _ => simp at q; subst q; exact z.there
    · exact TmRs.there r a q
theorem SlRs.length : ∀ {ρ : Rho} {σ : St} {as : List Addr}, SlRs K F H S ρ σ as → ρ.length = σ.length
  | _, _, _, .nil => rfl
  | _, _, _, .cons _ r => congrArg (· + 1) (SlRs.length r)
/-- one slot, and how the list is put together again -/
theorem SlRs.at : ∀ {ρ : Rho} {σ : St} {as : List Addr} {i : Nat} {s : Sl}, SlRs K F H S ρ σ as → ρ[i]? = some s → ∃ o xs ys zs, σ[i]? = some o ∧ SlR K F H S s o ys ∧ as = xs ++ (ys ++ zs) ∧
    ∀ {H' S' : Hp} {s' : Sl} {o' : Option V} {ys' : List Addr}, Ext S S' → (∀ a ∈ xs ++ zs, ∀ o, H a = some o → H' a = some o) → SlR K F H' S' s' o' ys' → SlRs K F H' S' (ρ.set i s') (σ.set i o') (xs ++ (ys' ++ zs))
  | _, _, _, _, _, .nil, e => by simp at e
  | _, _, _, 0, _, .cons (as := as) (bs := bs) h r, e => by
    simp at e
    subst e
    refine ⟨_, [], as, bs, rfl, h, by simp, fun hs hh h' => ?_⟩
    have q := SlRs.cons h' (r.mono hs fun a ha => hh a (by simpa using ha))
    simpa using q
  | _, _, _, i + 1, _, .cons (as := as) (bs := bs) h r, e => by
    obtain ⟨o, xs, ys, zs, h1, h2, h3, h4⟩ := SlRs.at (i := i) r (by simpa using e)
    refine ⟨o, as ++ xs, ys, zs, by simpa using h1, h2, by rw [h3]; simp, fun hs hh h' => ?_⟩
    have q := h4 hs (fun a ha => hh a (by simp only [List.append_assoc, List.mem_append] at ha ⊢; exact .inr ha)) h'
    have z := SlRs.cons (h.mono (H' := _) hs fun a ha => hh a (by simp only [List.append_assoc, List.mem_append]; exact .inl ha)) q
    simpa using z

def DcR (K : Fw) (H S : Hp) (a : Addr) (kvs : List (D × D)) : Prop := (∃ o es, H a = some (dN K.w a o es) ∧ Ents K S es kvs) ∨ (opq kvs = true ∧ ∃ kv : List (Key × V), H a = some (.dK kv))
theorem DcR.dn {K : Fw} {H S : Hp} {a : Addr} {kvs : List (D × D)} (h : DcR K H S a kvs) (ho : opq kvs = false) : ∃ o es, H a = some (dN K.w a o es) ∧ Ents K S es kvs := by
  rcases h with h | ⟨h, _⟩
  · exact h
  · rw [ho] at h; cases h
/-- what a temporary's value is: its top object may be owned, its parts are seen by S -/
def TopR (K : Fw) (H S : Hp) (v : V) : D → Prop
  | .list ds => ∃ a xs, v = .ref a ∧ SqL K H a xs ∧ Rps K S xs ds
  | .dict kvs => ∃ a, v = .ref a ∧ DcR K H S a kvs
  | d => Rp K S v d
theorem Rp.top {v : V} {d : D} (e : Ext S H) (h : Rp K S v d) : TopR K H S v d := by
  cases h with
  | non => exact .non
  | bl b => exact .bl b
  | int i => exact .int i
  | str x => exact .str x
  | lst h r => exact ⟨_, _, rfl, e.l h, r⟩
  | tup h r => exact .tup h r
  | dct h r => exact ⟨_, rfl, .inl ⟨_, _, e _ _ h, r⟩⟩
  | odc h r => exact ⟨_, rfl, .inr ⟨r, _, e _ _ h⟩⟩
theorem OwnAt.top {a : Addr} {d : D} (h : OwnAt K H S a d) : TopR K H S (.ref a) d := by
  cases h with
  | lst h r => exact ⟨_, _, rfl, .inl (.inl h), r⟩
  | dct h r => exact ⟨_, rfl, .inl ⟨_, _, h, r⟩⟩
theorem TopR.rp {v : V} {d : D} (e : Ext S H) (h : TopR K H S v d) : Rp K H v d := by
  cases d with
  | list ds => obtain ⟨a, xs, rfl, h, r⟩ := h; exact .lst h (r.ext e)
  | tuple ds => exact Rp.ext e h
  | none => exact Rp.ext e h
  | bool b => exact Rp.ext e h
  | int b => exact Rp.ext e h
  | str b => exact Rp.ext e h
  | dict b =>
    obtain ⟨a, rfl, ⟨o, es, h, r⟩ | ⟨h, _, r⟩⟩ := h
    · exact .dct h (r.ext e)
    · exact .odc r h
theorem slot_cases {i : Nat} {d : D} (h : slot ρ i = some d) : ρ[i]? = some (.sh d) ∨ ρ[i]? = some (.ow d) ∨ ∃ k, ρ[i]? = some (.io k d) := by
  unfold slot at h
  split at h
  · rename_i s e
    cases s with
    | un => cases h
    | sh x => cases h; exact .inl e
    | ow x => cases h; exact .inr (.inl e)
    | io k x => cases h; exact .inr (.inr ⟨k, e⟩)
    | ex x => cases h
  · cases h
theorem SlRs.slot {i : Nat} {d : D} (e : Ext S H) (h : SlRs K F H S ρ σ as) (hd : slot ρ i = some d) : ∃ v, σ[i]? = some (some v) ∧ TopR K H S v d := by
  rcases slot_cases hd with q | q | ⟨k, q⟩
  · obtain ⟨o, _, _, _, h1, h2, _, _⟩ := h.at q
    cases h2 with
    | sh r => exact ⟨_, h1, r.top e⟩
  · obtain ⟨o, _, _, _, h1, h2, _, _⟩ := h.at q
    cases h2 with
    | ow r => exact ⟨_, h1, r.top⟩
  · obtain ⟨o, _, _, _, h1, h2, _, _⟩ := h.at q
    cases h2 with
    | io r => exact ⟨_, h1, r.top⟩
theorem TmR.top {t : Tm} {v : V} {d : D} (e : Ext S H) (hs : SlRs K F H S ρ σ as) (h : TmR K F H S σ t v bs) (hd : t.get ρ = some d) : TopR K H S v d := by
  cases h with
  | sh r => cases hd; exact r.top e
  | ow r => cases hd; exact r.top
  | br r =>
    obtain ⟨w, h1, h2⟩ := hs.slot e (show slot ρ _ = some d from hd)
    rw [r] at h1
    cases h1
    exact h2
  | un v => cases hd
theorem SlRs.get {i : Nat} {s : Sl} (h : SlRs K F H S ρ σ as) (e : ρ[i]? = some s) : ∃ o xs ys zs, σ[i]? = some o ∧ SlR K F H S s o ys ∧ as = xs ++ (ys ++ zs) := by
  obtain ⟨o, xs, ys, zs, h1, h2, h3, _⟩ := h.at e
  exact ⟨o, xs, ys, zs, h1, h2, h3⟩
end

section
variable {K : Fw} {F : Frm} {H H' S S' : Hp} {σ : St} {ρ ρ' : Rho} {t u : Tm} {ts : List Tm} {v w : V} {vs : List V} {as bs cs : List Addr} {d : D}

theorem Cf.top (c : Cf K F S ρ (t :: ts) σ (v :: vs) H as bs) (hd : t.get ρ = some d) : TopR K H S v d := by
  cases c.tms with
  | cons h r => exact h.top c.sub c.slots hd
theorem Cf.top2 (c : Cf K F S ρ (u :: t :: ts) σ (w :: v :: vs) H as bs) (hd : t.get ρ = some d) : TopR K H S v d := by
  cases c.tms with
  | cons _ r =>
    cases r with
    | cons h r => exact h.top c.sub c.slots hd
theorem Cf.drop (c : Cf K F S ρ (t :: ts) σ (v :: vs) H as bs) : ∃ cs, Cf K F S ρ ts σ vs H as cs := by
  cases h : c.tms with
  | cons h1 r =>
    rename_i xs ys
    exact ⟨ys, c.sub, c.s0, c.new, c.keep, c.iod, c.slots, r, c.nd.sublist (List.Sublist.append (List.Sublist.refl _) (List.sublist_append_right _ _)),
      fun a ha => c.out a (by
        rcases List.mem_append.mp ha with q | q
        · exact List.mem_append_left _ q
        · exact List.mem_append_right _ (List.mem_append_right _ q))⟩
theorem Conf.drop (c : Conf K F ρ (t :: ts) σ (v :: vs) H) : Conf K F ρ ts σ vs H := by
  obtain ⟨S, as, bs, c⟩ := c
  obtain ⟨cs, c⟩ := c.drop
  exact ⟨S, as, cs, c⟩
theorem Cf.swap (c : Cf K F S ρ (t :: u :: ts) σ (v :: w :: vs) H as bs) : ∃ cs, Cf K F S ρ (u :: t :: ts) σ (w :: v :: vs) H as cs := by
  have c' := c
  obtain ⟨c1, c2, c3, c4, c0, c5, c6, c7, c8⟩ := c'
  cases c6 with
  | cons h1 r =>
    rename_i xs ys
    cases r with
    | cons h2 r =>
      rename_i xs' ys'
      refine ⟨xs' ++ (xs ++ ys'), c1, c2, c3, c4, c0, c5, .cons h2 (.cons h1 r), ?_, fun a ha => c8 a ?_⟩
      · refine List.Perm.nodup (l := as ++ (xs ++ (xs' ++ ys'))) ?_ c7
        refine List.Perm.append_left _ ?_
        rw [← List.append_assoc, ← List.append_assoc]
        exact List.Perm.append_right _ List.perm_append_comm
      · simp only [List.mem_append] at ha ⊢
        rcases ha with q | q | q | q
        · exact .inl q
        · exact .inr (.inr (.inl q))
        · exact .inr (.inl q)
        · exact .inr (.inr (.inr q))
theorem Conf.swap (c : Conf K F ρ (t :: u :: ts) σ (v :: w :: vs) H) : Conf K F ρ (u :: t :: ts) σ (w :: v :: vs) H := by
  obtain ⟨S, as, bs, c⟩ := c
  obtain ⟨cs, c⟩ := c.swap
  exact ⟨S, as, cs, c⟩
/-- shared data is pushed -/
theorem Cf.push (c : Cf K F S ρ ts σ vs H as bs) (r : Rp K S v d) : Cf K F S ρ (.sh d :: ts) σ (v :: vs) H as bs :=
  ⟨c.sub, c.s0, c.new, c.keep, c.iod, c.slots, (.cons (as := []) (.sh r) c.tms), c.nd, c.out⟩
theorem Cf.pushBr {i : Nat} (c : Cf K F S ρ ts σ vs H as bs) (r : σ[i]? = some (some v)) : Cf K F S ρ (.br i :: ts) σ (v :: vs) H as bs :=
  ⟨c.sub, c.s0, c.new, c.keep, c.iod, c.slots, (.cons (as := []) (.br r) c.tms), c.nd, c.out⟩
/-- a heap with more: all that is known stays -/
theorem Cf.grow (c : Cf K F S ρ ts σ vs H as bs) (e : Ext H H') : Cf K F S ρ ts σ vs H' as bs :=
  ⟨c.sub.trans e, c.s0, c.new, fun a o h n => e a o (c.keep a o h n), fun a h => (c.iod a h).imp fun o q => e a o q, c.slots.mono (Same.refl _) fun a _ o h => e a o h, c.tms.mono (Same.refl _) fun a _ o h => e a o h, c.nd, c.out⟩
theorem Cf.newHin (c : Cf K F S ρ ts σ vs H as bs) {p : Addr} (hp : H p = none) : F.Hin p = none := by
  cases q : F.Hin p with
  | none => rfl
  | some u =>
    by_cases z : p ∈ F.io
    · obtain ⟨o, y⟩ := c.iod p z
      rw [hp] at y; cases y
    · rw [c.keep p u q z] at hp; cases hp
theorem Cf.fresh (c : Cf K F S ρ ts σ vs H as bs) {p : Addr} (hp : H p = none) : p ∉ as ++ bs := fun q => by
  rcases List.mem_append.mp q with q | q
  · obtain ⟨u, h⟩ := c.slots.there _ q; rw [hp] at h; cases h
  · obtain ⟨u, h⟩ := c.tms.there _ q; rw [hp] at h; cases h
/-- .. the new object is seen -/
theorem Cf.see {p : Addr} {o : HO} (c : Cf K F S ρ ts σ vs H as bs) (hp : H p = none) : Cf K F (upd S p o) ρ ts σ vs (upd H p o) as bs := by
  have hS : S p = none := none_of_ext c.sub hp
  have e1 : Ext S (upd S p o) := ext_upd hS
  have e2 : Ext H (upd H p o) := ext_upd hp
  have hin := c.newHin hp
  refine ⟨fun a u h => ?_, c.s0.trans e1, fun a u h => ?_, fun a u h n => e2 a u (c.keep a u h n), fun a h => (c.iod a h).imp fun o q => e2 a o q, c.slots.mono e1 fun a _ u h => e2 a u h, c.tms.mono e1 fun a _ u h => e2 a u h, c.nd, fun a ha => ?_⟩
  · by_cases q : a = p
    · subst q; rw [upd_same] at h; rw [upd_same]; exact h
    · rw [upd_ne q] at h; rw [upd_ne q]; exact c.sub a u h
  · by_cases q : a = p
    · subst q; exact .inr hin
    · rw [upd_ne q] at h; exact c.new a u h
  · have hne : a ≠ p := fun z => by subst z; exact c.fresh hp ha
    rw [upd_ne hne]
    exact c.out a ha
/-- .. the new object is owned by a temporary -/
theorem Cf.own {p : Addr} {o : HO} (c : Cf K F S ρ ts σ vs H as bs) (hp : H p = none) (h : OwnAt K (upd H p o) S p d) : Cf K F S ρ (.ow d :: ts) σ (.ref p :: vs) (upd H p o) as (p :: bs) := by
  have g := c.grow (ext_upd (o := o) hp)
  refine ⟨g.sub, g.s0, g.new, g.keep, g.iod, g.slots, (.cons (as := [p]) (.ow h (c.newHin hp)) g.tms), ?_, fun a ha => ?_⟩
  · exact (List.perm_middle (a := p) (l₁ := as) (l₂ := bs)).nodup_iff.mpr (List.nodup_cons.mpr ⟨c.fresh hp, c.nd⟩)
  · by_cases q : a = p
    · subst q; exact none_of_ext c.sub hp
    · exact c.out a (by
        simp only [List.mem_append, List.mem_cons] at ha ⊢
        rcases ha with z | z | z
        · exact .inl z
        · exact absurd z q
        · exact .inr z)
/-- an owned object that is not owned any more: it is seen -/
theorem Cf.freeze {a : Addr} {o : HO} {as' bs' : List Addr} {ts' : List Tm} {vs' : List V} (c : Cf K F S ρ ts σ vs H as bs) (ha : H a = some o) (hm : a ∈ as ++ bs) (hsl : SlRs K F H (upd S a o) ρ' σ as') (htm : TmRs K F H (upd S a o) σ ts' vs' bs')
    (hsub : (as' ++ bs').Sublist (as ++ bs)) (hna : a ∉ as' ++ bs') (hin : F.Hin a = none) : Cf K F (upd S a o) ρ' ts' σ vs' H as' bs' := by
  have hS := c.out a hm
  have e1 : Ext S (upd S a o) := ext_upd hS
  refine ⟨fun b u h => ?_, c.s0.trans e1, fun b u h => ?_, c.keep, c.iod, hsl, htm, c.nd.sublist hsub, fun b hb => ?_⟩
  · by_cases q : b = a
    · subst q; rw [upd_same] at h; cases h; exact ha
    · rw [upd_ne q] at h; exact c.sub b u h
  · by_cases q : b = a
    · subst q; exact .inr hin
    · rw [upd_ne q] at h; exact c.new b u h
  · have q : b ≠ a := fun z => by subst z; exact hna hb
    rw [upd_ne q]
    exact c.out b (hsub.subset hb)
/-- THE ESCAPE: a temporary's object is shared from now on -/
theorem Cf.esc (c : Cf K F S ρ (t :: ts) σ (v :: vs) H as bs) (hd : t.get ρ = some d) (he : t.esc ρ = some ρ') : ∃ S' as' bs', Ext S S' ∧ Cf K F S' ρ' (.sh d :: ts) σ (v :: vs) H as' bs' := by
  cases h : c.tms with
  | cons h1 r =>
    rename_i xs ys
    cases h1 with
    | un v => cases hd
    | sh q =>
      cases hd
      cases (Option.some.inj he : ρ = ρ')
      exact ⟨S, as, _, Same.refl _, c⟩
    | ow q n =>
      rename_i a d'
      cases hd
      cases (Option.some.inj he : ρ = ρ')
      obtain ⟨o, ho⟩ := q.there
      have hm : a ∈ as ++ ([a] ++ ys) := by simp
      have e1 : Ext S (upd S a o) := ext_upd (c.out a hm)
      have hn : a ∉ as ++ ys := by
        have nd := c.nd
        have nd' := (List.perm_middle (a := a) (l₁ := as) (l₂ := ys)).nodup_iff.mp nd
        exact (List.nodup_cons.mp nd').1
      have q' : Rp K (upd S a o) (.ref a) d := q.rp e1 (fun u hu => by rw [ho] at hu; cases hu; exact upd_same)
      refine ⟨_, as, ys, e1, c.freeze ho hm (c.slots.mono e1 fun _ _ _ h => h) (.cons (as := []) (.sh q') (r.mono e1 fun _ _ _ h => h)) ?_ ?_ n⟩
      · exact List.Sublist.append (List.Sublist.refl _) (List.sublist_append_right _ _)
      · simpa using hn
    | br q =>
      rename_i i
      have he' : share ρ i = some ρ' := he
      have hd' : slot ρ i = some d := hd
      unfold share at he'
      split at he'
      · rename_i d2 e2
        cases Option.some.inj he'
        have : d2 = d := by unfold slot at hd'; rw [e2] at hd'; exact Option.some.inj hd'
        subst this
        obtain ⟨o, x1, x2, x3, h1, h2, h3, h4⟩ := c.slots.at e2
        rw [q] at h1
        cases h1
        cases h2 with
        | ow h2 n =>
          rename_i a
          obtain ⟨o, ho⟩ := h2.there
          have hm : a ∈ as ++ ([] ++ ys) := by rw [h3]; simp
          have e1 : Ext S (upd S a o) := ext_upd (c.out a hm)
          have q' : Rp K (upd S a o) (.ref a) d2 := h2.rp e1 (fun u hu => by rw [ho] at hu; cases hu; exact upd_same)
          have hsl := h4 (H' := H) (S' := upd S a o) (s' := .sh d2) (o' := some (.ref a)) (ys' := []) e1 (fun _ _ _ h => h) (.sh q')
          have hσ : σ.set i (some (.ref a)) = σ := by
            obtain ⟨hi, z⟩ := List.getElem?_eq_some_iff.mp q
            rw [← z]; exact List.set_getElem_self hi
          rw [hσ] at hsl
          have nd := c.nd
          rw [h3] at nd
          refine ⟨_, _, ys, e1, c.freeze ho hm hsl (.cons (as := []) (.sh q') (r.mono e1 fun _ _ _ h => h)) ?_ ?_ n⟩
          · rw [h3]
            exact List.Sublist.append (List.Sublist.append (List.Sublist.refl _) (List.sublist_append_right _ _)) (by simp)
          · have nd' : (x1 ++ a :: (x3 ++ ys)).Nodup := by simpa using nd
            have := (List.nodup_cons.mp (List.perm_middle.nodup_iff.mp nd')).1
            simpa using this
      · rename_i d2 e2
        cases Option.some.inj he'
        have : d2 = d := by unfold slot at hd'; rw [e2] at hd'; exact Option.some.inj hd'
        subst this
        obtain ⟨o, x1, x2, x3, h1, h2, h3, h4⟩ := c.slots.at e2
        rw [q] at h1
        cases h1
        cases h2 with
        | sh h2 =>
          refine ⟨S, as, ys, Same.refl _, ?_⟩
          exact ⟨c.sub, c.s0, c.new, c.keep, c.iod, c.slots, (.cons (as := []) (.sh h2) r), c.nd, c.out⟩
      · cases he'
end
end Ev

-- Ev3
/-! Ev3: the evaluator: operations on data, the IR, its meaning. -/
namespace Ev
open PySem L2
noncomputable section

/-! ### dicts -/
instance decD : DecidableEq D := fun _ _ => Classical.propDecidable _
def dLook (kvs : List (D × D)) (d : D) : Option D := (kvs.find? fun p => decide (p.1 = d)).map (·.2)
def dPut (kvs : List (D × D)) (d v : D) : List (D × D) := if (dLook kvs d).isSome then kvs.map fun p => if p.1 = d then (p.1, v) else p else kvs ++ [(d, v)]
def dDel (kvs : List (D × D)) (d : D) : List (D × D) := kvs.filter fun p => decide (p.1 ≠ d)
/-! ### operations on data -/
inductive BOp where
  | add | sub | mul | fdiv | mod | pow
  deriving DecidableEq
inductive COp where
  | eq | ne | lt | le | gt | ge | is_ | isnot | in_ | notin
  deriving DecidableEq
inductive Bi where
  | len | int | abs | max2 | min2 | list | tuple | sum | all | any | str | srt
  deriving DecidableEq
inductive Ty where
  | int | bool | str | tuple | list
  deriving DecidableEq

/-! bounds of the model; decided by choice, so that nothing ever computes them -/
def Sm (n : Nat) : Prop := n ≤ 16777216
instance (n : Nat) : Decidable (Sm n) := Classical.propDecidable _
def MulOk (i j : Int) : Prop := (-(2 ^ 64) < i ∧ i < 2 ^ 64) ∨ (-(2 ^ 64) < j ∧ j < 2 ^ 64)
instance (i j : Int) : Decidable (MulOk i j) := Classical.propDecidable _
def DivOk (j : Int) : Prop := j.natAbs.log2 < 9000
instance (j : Int) : Decidable (DivOk j) := Classical.propDecidable _
def PowOk (i j : Int) : Prop := 0 ≤ j ∧ j ≤ 1000000 ∧ i.natAbs < 2 ^ 64
instance (i j : Int) : Decidable (PowOk i j) := Classical.propDecidable _
def DigOk (i : Int) : Prop := i.natAbs.log2 < 1920
instance (i : Int) : Decidable (DigOk i) := Classical.propDecidable _
def RepOk (n : Nat) (k : Int) : Prop := -(2 ^ 63) ≤ k ∧ k < 2 ^ 63 ∧ n * k.toNat ≤ 16777216
instance (n : Nat) (k : Int) : Decidable (RepOk n k) := Classical.propDecidable _
def RepTOk (n : Nat) (k : Int) : Prop := 0 < n ∧ n ≤ 1000 ∧ -(2 ^ 63) ≤ k ∧ k ≤ 1000
instance (n : Nat) (k : Int) : Decidable (RepTOk n k) := Classical.propDecidable _
def PopOk (j : Int) : Prop := -(2 ^ 63) ≤ j ∧ j < 2 ^ 63
instance (j : Int) : Decidable (PopOk j) := Classical.propDecidable _
def RngOk (j : Int) : Prop := -(2 ^ 62) ≤ j ∧ j < 2 ^ 62
instance (j : Int) : Decidable (RngOk j) := Classical.propDecidable _
def repL (n : Nat) (ds : List D) : List D := (List.replicate n ds).flatten
def binD : BOp → D → D → Option (Bool × D)
  | .add, .int i, .int j => some (false, .int (i + j))
  | .add, .str x, .str y => if Sm (x.length + y.length) then some (false, .str (x ++ y)) else none
  | .add, .list xs, .list ys => if Sm (xs.length + ys.length) then some (true, .list (xs ++ ys)) else none
  | .add, .tuple xs, .tuple ys => if Sm (xs.length + ys.length) then some (false, .tuple (xs ++ ys)) else none
  | .sub, .int i, .int j => some (false, .int (i - j))
  | .mul, .tuple ds, .int k => if RepTOk ds.length k then some (false, .tuple (repL k.toNat ds)) else none
  | .mul, .int i, .int j => if MulOk i j then some (false, .int (i * j)) else none
  | .fdiv, .int i, .int j => if 0 < j ∧ DivOk j then some (false, .int (i / j)) else none
  | .mod, .int i, .int j => if 0 < j then some (false, .int (i % j)) else none
  | .pow, .int i, .int j => if PowOk i j then some (false, .int (i ^ j.toNat)) else none
  | .mul, .list ds, .int k => if RepOk ds.length k then some (true, .list (repL k.toNat ds)) else none
  | _, _, _ => none
/-- two lists of different lengths -/
def lenD : D → D → Option Bool
  | .list xs, .list ys => if xs.length = ys.length then none else some false
  | _, _ => none
def eqD : D → D → Option Bool
  | .str x, .str y => some (x == y)
  | .str _, .none => some false
  | .str _, .int _ => some false
  | .str _, .bool _ => some false
  | .none, .str _ => some false
  | .int _, .str _ => some false
  | .bool _, .str _ => some false
  | a, b => if SeqAt.shaped a && SeqAt.shaped b then some (PyData.eqv a b) else lenD a b
def inD (x : D) : D → Option Bool
  | .list ds => if SeqAt.shaped x && SeqAt.shaped (.list ds) then some (ds.any fun z => PyData.eqv z x) else none
  | .tuple ds => if SeqAt.shaped x && SeqAt.shaped (.tuple ds) then some (ds.any fun z => PyData.eqv z x) else none
  | .str y => match x with
    | .str x => some (!(Builtin.Str.occurrences y x 0 y.length 1).isEmpty)
    | _ => none
  | .dict kvs => if opq kvs then none else if (keyT x).isSome then some (dLook kvs x).isSome else none
  | _ => none
def isNone : D → Bool
  | .none => true
  | _ => false
def isD : D → D → Option Bool
  | x, .none => some (isNone x)
  | .bool a, .bool b => some (a == b)
  | _, _ => none
/-- tuples that can be told by order -/
def OrdOk (xs ys : List D) : Prop := PySem.W.alike (.tuple xs) (.tuple ys) = true ∧ (PyData.tuple xs).canLay0 = true ∧ (PyData.tuple ys).canLay0 = true ∧ (PyData.tuple xs).depth ≤ 60
instance (xs ys : List D) : Decidable (OrdOk xs ys) := Classical.propDecidable _
def ordD (o : COp) : D → D → Option Bool
  | .tuple xs, .tuple ys => if OrdOk xs ys then match o with
    | .lt => some (PySem.W.dataLt (.tuple xs) (.tuple ys))
    | .le => some (!PySem.W.dataLt (.tuple ys) (.tuple xs))
    | .gt => some (PySem.W.dataLt (.tuple ys) (.tuple xs))
    | .ge => some (!PySem.W.dataLt (.tuple xs) (.tuple ys))
    | _ => none
    else none
  | .int i, .int j => match o with
    | .lt => some (decide (i < j))
    | .le => some (decide (i ≤ j))
    | .gt => some (decide (j < i))
    | .ge => some (decide (j ≤ i))
    | _ => none
  | _, _ => none
def cmpD : COp → D → D → Option Bool
  | .eq, a, b => eqD a b
  | .ne, a, b => (eqD a b).map (!·)
  | .in_, a, b => inD a b
  | .notin, a, b => (inD a b).map (!·)
  | .is_, a, b => isD a b
  | .isnot, a, b => (isD a b).map (!·)
  | o, a, b => ordD o a b
def cmpB (o : COp) (a b : D) : Option (Bool × D) := (cmpD o a b).map fun k => (false, .bool k)
def negD : D → Option (Bool × D)
  | .int i => some (false, .int (-i))
  | _ => none
def notD : D → Option (Bool × D)
  | .bool b => some (false, .bool !b)
  | _ => none
def idxD : D → D → Option (Bool × D)
  | .list ds, .int i => (atI ds i).map fun d => (false, d)
  | .tuple ds, .int i => (atI ds i).map fun d => (false, d)
  | .dict kvs, k => if opq kvs then none else if (keyT k).isSome then (dLook kvs k).map fun d => (false, d) else none
  | .str x, .int i => if Sm (x.length) then (atI x.cps.toList i).map fun c => (false, .str ⟨#[c]⟩) else none
  | _, _ => none
def cut {α : Type} (xs : List α) (lo hi : Option Int) : List α := (xs.drop (HT.sIx xs.length 0 lo)).take (HT.sIx xs.length xs.length hi - HT.sIx xs.length 0 lo)
def slcD (lo hi : Option Int) : D → Option (Bool × D)
  | .list ds => some (true, .list (cut ds lo hi))
  | .tuple ds => some (false, .tuple (cut ds lo hi))
  | .str x => if Sm (x.length) then some (false, .str (cutS x lo hi)) else none
  | _ => none
def revD : D → Option (Bool × D)
  | .list ds => some (true, .list ds.reverse)
  | .tuple ds => some (false, .tuple ds.reverse)
  | _ => none
def intsOf : List D → Option (List Int)
  | [] => some []
  | .int i :: r => (intsOf r).map (i :: ·)
  | _ :: _ => none
def boolsOf : List D → Option (List Bool)
  | [] => some []
  | .bool b :: r => (boolsOf r).map (b :: ·)
  | _ :: _ => none
def isiD : Ty → D → Option Bool
  | .int, .int _ => some true
  | .int, .bool _ => some true
  | .bool, .bool _ => some true
  | .str, .str _ => some true
  | .tuple, .tuple _ => some true
  | .list, .list _ => some true
  | _, _ => some false
def maxL : List Int → Int
  | [] => 0
  | n :: ns => ns.foldl (fun a b => if b > a then b else a) n
def minL : List Int → Int
  | [] => 0
  | n :: ns => ns.foldl (fun a b => if b < a then b else a) n
/-- what can be sorted -/
def SortOk (ds : List D) : Prop := ds.length ≤ sizeLine ∧ PySem.W.AllAlike ds ∧ (∀ d ∈ ds, d.canLay0 = true ∧ d.depth ≤ 60) ∧
  (PySem.W.Sortable ds ∨ (ds.head? = some (.tuple []) ∧ ∀ d ∈ ds, ∃ xs, d = .tuple xs))
instance (ds : List D) : Decidable (SortOk ds) := Classical.propDecidable _
def srtL (ds : List D) : List D := ds.mergeSort (PySem.W.dataLe false id)
def biD : Bi → List D → Option (Bool × D)
  | .len, [.list ds] => some (false, .int ds.length)
  | .len, [.tuple ds] => some (false, .int ds.length)
  | .len, [.dict kvs] => if opq kvs then none else some (false, .int kvs.length)
  | .len, [.str x] => if Sm (x.length) then some (false, .int x.length) else none
  | .int, [.int i] => some (false, .int i)
  | .int, [.bool b] => some (false, .int (if b then 1 else 0))
  | .abs, [.int i] => some (false, .int (if i < 0 then -i else i))
  | .max2, [.int i, .int j] => some (false, .int (if j > i then j else i))
  | .min2, [.int i, .int j] => some (false, .int (if j < i then j else i))
  | .list, [.list ds] => some (true, .list ds)
  | .list, [.tuple ds] => some (true, .list ds)
  | .tuple, [.list ds] => some (false, .tuple ds)
  | .tuple, [.tuple ds] => some (false, .tuple ds)
  | .sum, [.list ds] => (intsOf ds).map fun ns => (false, .int ns.sum)
  | .all, [.list ds] => (boolsOf ds).map fun bs => (false, .bool (bs.all id))
  | .any, [.list ds] => (boolsOf ds).map fun bs => (false, .bool (bs.any id))
  | .srt, [.list ds] => if SortOk ds then some (true, .list (srtL ds)) else none
  | .srt, [.dict kvs] => if opq kvs then none else if SortOk (kvs.map (·.1)) then some (true, .list (srtL (kvs.map (·.1)))) else none
  | .srt, [.tuple ds] => if SortOk ds then some (true, .list (srtL ds)) else none
  | .max2, [.list ds] => (intsOf ds).bind fun ns => if ns = [] then none else some (false, .int (maxL ns))
  | .min2, [.list ds] => (intsOf ds).bind fun ns => if ns = [] then none else some (false, .int (minL ns))
  | .str, [.int i] => if DigOk i then some (false, .str (toString i)) else none
  | _, _ => none
/-- the truth of a value -/
def truD : D → Option Bool
  | .none => some false
  | .bool b => some b
  | .int i => some (i != 0)
  | .str x => if Sm (x.length) then some ((x.length : Int) != 0) else none
  | .list ds => some !ds.isEmpty
  | .tuple ds => some !ds.isEmpty
  | .dict _ => none

/-! ### the IR -/
inductive Tg where
  | nm (i : Nat)
  | tup (ts : List Tg)
mutual
inductive E where
  | bad
  | var (i : Nat)
  | cst (d : D)
  | gv (x : Str) (d : D)
  | bin (o : BOp) (a b : E)
  | neg (a : E)
  | cmp (o : COp) (a b : E)
  | chn (o p : COp) (a b c : E)
  | bool (k : Bool) (es : Es)
  | not_ (a : E)
  | ite (t : T) (a b : E)
  | tup (es : Es)
  | lst (es : Es)
  | idx (a b : E)
  | slc (a : E) (lo hi : O)
  /-- x[::-1] -/
  | rev (a : E)
  | bi (b : Bi) (es : Es)
  | isi (t : Ty) (a : E)
  | call (f : Str) (m : Fn) (dv : List D) (as : As)
  | app (i : Nat) (e : E)
  | ext (i : Nat) (e : E)
  | pop (i : Nat) (k : O)
  /-- a list that nobody else holds, times a number -/
  | rep (a b : E)
  | clear (i : Nat)
  /-- isinstance(e, c), e the exception that the suite holds; the answer for each class -/
  | isx (i : Nat) (c : Str) (t : List (Str × Bool))
  /-- isinstance(e, (c, ..)) -/
  | ist (i : Nat) (cs : List Str) (t : List (Str × Bool))
  /-- len(set(a)) -/
  | lset (a : E)
  /-- a def whose first argument is a new object that it changes -/
  | calln (f : Str) (m : Fn) (dv : List D) (e : E) (as : As)
  /-- a def that only looks at lists of this frame, and answers with plain data -/
  | callb (f : Str) (m : Fn) (dv : List D) (as : As)
  /-- e.f -/
  | plc (i : Nat) (f : Str) (cs : List Str)
  /-- {} -/
  | dnew
  /-- {1: 2}: only looked at from outside -/
  | odict (i j : Int)
  /-- {k: v} -/
  | d1 (k v : E)
  /-- d.get(k), d.get(k, x) -/
  | dgt1 (d k : E)
  | dgt2 (d k x : E)
  /-- d.setdefault(k, x) -/
  | dsf (i : Nat) (k x : E)
  | lc (own : List (Str × Nat)) (tg : Tg) (it : I) (c : Option T) (e : E)
  | lc2 (own : List (Str × Nat)) (tg : Tg) (it : I) (tg1 : Tg) (it1 : I) (c : Option T) (e : E)
inductive Es where
  | nil
  | cons (e : E) (es : Es)
inductive As where
  | nil
  | val (e : E) (as : As)
  | io (i : Nat) (as : As)
inductive T where
  | tru (e : E)
  | cmp (o : COp) (a b : E)
  | chn (o p : COp) (a b c : E)
  | bool (k : Bool) (ts : Ts)
  | not_ (a : T)
inductive Ts where
  | nil
  | cons (t : T) (ts : Ts)
inductive O where
  | no
  | so (e : E)
inductive I where
  | lst (e : E)
  | rng1 (e : E)
  | rng2 (a b : E)
  | enum (e : E)
  | zip (a b : E)
end
mutual
inductive S where
  | bad
  | asg (i : Nat) (keep : Bool) (e : E)
  | asgT (tg : Tg) (e : E)
  | setI (i : Nat) (k e : E)
  /-- d[k] = e -/
  | dput (i : Nat) (k e : E)
  | aug (i : Nat) (o : BOp) (e : E)
  | augI (i : Nat) (k : E) (o : BOp) (e : E)
  | par (is : List Nat) (es : Es)
  | expr (e : E)
  | ifs (t : T) (a b : Ss)
  | for_ (fg : List Nat) (tg : Tg) (it : I) (b : Ss)
  | whl (fg : List Nat) (t : T) (b : Ss)
  | ret (e : E)
  | retN
  /-- raise C('m'), C a class without own __init__ -/
  | rais (c m : Str)
  /-- raise C(e), C's __init__ setting the field f -/
  | raip (c f m : Str) (e : E)
  | try_ (b : Ss) (hs : Hs)
  | brk
  | cnt
  | pass
inductive Ss where
  | nil
  | cons (s : S) (ss : Ss)
  /-- some slots are forgotten -/
  | fgt (fg : List Nat) (ss : Ss)
/-- except c as slot: which classes it takes -/
inductive Hs where
  | nil
  | cons (c : Str) (t : List (Str × Bool)) (nm : Option Nat) (b : Ss) (hs : Hs)
end

/-! ### what they mean -/
def Res.bind {α β : Type} (r : Res α) (f : α → Rho → Res β) : Res β := match r with
  | .ok a ρ => f a ρ
  | .exc x ρ => .exc x ρ
  | .bad => .bad
def mkT (own : Bool) (d : D) : Tm := if own then .ow d else .sh d
def giveT (o : Option (Bool × D)) (ρ : Rho) : Res Tm := match o with
  | some (own, d) => .ok (mkT own d) ρ
  | none => .bad
def op1 (f : D → Option (Bool × D)) (t : Tm) (ρ : Rho) : Res Tm := match t.get ρ with
  | some a => giveT (f a) ρ
  | none => .bad
def op2 (f : D → D → Option (Bool × D)) (t u : Tm) (ρ : Rho) : Res Tm := match t.get ρ, u.get ρ with
  | some a, some b => giveT (f a b) ρ
  | _, _ => .bad
/-- a truth of two data, and what follows -/
def op2b {α : Type} (f : D → D → Option Bool) (t u : Tm) (ρ : Rho) (g : Bool → Res α) : Res α := match t.get ρ, u.get ρ with
  | some a, some b => match f a b with
    | some k => g k
    | none => .bad
  | _, _ => .bad
def getAll (ρ : Rho) : List Tm → Option (List D)
  | [] => some []
  | t :: ts => match t.get ρ, getAll ρ ts with
    | some d, some ds => some (d :: ds)
    | _, _ => none
def opN (f : List D → Option (Bool × D)) (ts : List Tm) (ρ : Rho) : Res Tm := match getAll ρ ts with
  | some ds => giveT (f ds) ρ
  | none => .bad
/-- the content of a temporary, which is shared from now on -/
def take (t : Tm) (ρ : Rho) : Res D := match t.get ρ, t.esc ρ with
  | some d, some ρ' => .ok d ρ'
  | _, _ => .bad
def takeAll : List Tm → Rho → Res (List D)
  | [], ρ => .ok [] ρ
  | t :: ts, ρ => (takeAll ts ρ).bind fun ds ρ' => (take t ρ').bind fun d ρ2 => .ok (d :: ds) ρ2
def boolOf (d : D) (ρ : Rho) : Res Bool := match d with
  | .bool b => .ok b ρ
  | _ => .bad
def truOf (t : Tm) (ρ : Rho) : Res Bool := match t.get ρ with
  | some d => match truD d with
    | some b => .ok b ρ
    | none => .bad
  | none => .bad
/-! stores of shared data to names -/
mutual
def asgTg : Tg → D → Rho → Option Rho
  | .nm i, d, ρ => match ρ[i]? with
    | some (.io _ _) => none
    | some _ => some (ρ.set i (.sh d))
    | none => none
  | .tup ts, d, ρ => match d with
    | .tuple ds => asgTgs ts ds ρ
    | _ => none
def asgTgs : List Tg → List D → Rho → Option Rho
  | [], [], ρ => some ρ
  | t :: ts, d :: ds, ρ => (asgTg t d ρ).bind fun ρ' => asgTgs ts ds ρ'
  | _, _, _ => none
end
mutual
/-- the slots of a target -/
def tgIx : Tg → List Nat
  | .nm i => [i]
  | .tup ts => tgsIx ts
def tgsIx : List Tg → List Nat
  | [] => []
  | t :: ts => tgIx t ++ tgsIx ts
end
def onTg (o : Option Rho) : Res Unit := match o with
  | some ρ => .ok () ρ
  | none => .bad
/-- in a comprehension nothing is raised -/
def Res.noExc {α : Type} (r : Res α) : Res α := match r with
  | .exc _ _ => .bad
  | r => r
def Sl.plain : Sl → Bool
  | .un => true
  | .sh _ => true
  | _ => false
def plainAt (ρ : Rho) (i : Nat) : Bool := match ρ[i]? with
  | some s => s.plain
  | none => false
def clr (ρ : Rho) : List Nat → Rho
  | [] => ρ
  | v :: vs => (clr ρ vs).set v .un
/-- the slots of a comprehension's own names as they stood -/
def rst (ρ ρ' : Rho) : List Nat → Rho
  | [] => ρ'
  | v :: vs => (rst ρ ρ' vs).set v (ρ[v]?.getD .un)
def itemsOf : D → Option (List D)
  | .list ds => some ds
  | .tuple ds => some ds
  | .str x => some (x.cps.toList.map fun c => .str ⟨#[c]⟩)
  | .dict kvs => if opq kvs then none else some (kvs.map (·.1))
  | _ => none
def rngD (lo : Int) (n : Nat) : List D := (List.range n).map fun (k : Nat) => .int (lo + (k : Int))
def enumFrom (i : Nat) : List D → List D
  | [] => []
  | d :: ds => .tuple [.int i, d] :: enumFrom (i + 1) ds
def zipD : List D → List D → List D
  | a :: as, b :: bs => .tuple [a, b] :: zipD as bs
  | _, _ => []
/-- the turns of a comprehension -/
def lcL (turn : D → Rho → Res (Option D)) : List D → List D → Rho → Res (List D)
  | [], acc, ρ => .ok acc ρ
  | d :: ds, acc, ρ => (turn d ρ).bind fun o ρ' => match o with
    | some x => if Sm (acc.length + 1) then lcL turn ds (acc ++ [x]) ρ' else .bad
    | none => lcL turn ds acc ρ'
def lcL2 (turn : D → List D → Rho → Res (List D)) : List D → List D → Rho → Res (List D)
  | [], acc, ρ => .ok acc ρ
  | d :: ds, acc, ρ => (turn d acc ρ).bind fun acc' ρ' => lcL2 turn ds acc' ρ'
/-- the list of an owned slot changes -/
def chgI (f : List D → Option (List D)) (i : Nat) (ρ : Rho) : Option Rho := match ρ[i]? with
  | some (.ow (.list ds)) => (f ds).map fun ds' => ρ.set i (.ow (.list ds'))
  | some (.io k (.list ds)) => (f ds).map fun ds' => ρ.set i (.io k (.list ds'))
  | _ => none
def setAt (k : D) (d : D) (ds : List D) : Option (List D) := match k with
  | .int j => (ixN ds.length j).map fun n => ds.set n d
  | _ => none
def appAt (d : D) (ds : List D) : Option (List D) := if Sm (ds.length + 1) then some (ds ++ [d]) else none
def extAt (es : List D) (ds : List D) : Option (List D) := if Sm (ds.length + es.length) then some (ds ++ es) else none
def chgE (f : List D → Option (List D)) (i : Nat) (ρ : Rho) : Res Tm := match chgI f i ρ with
  | some ρ' => .ok (.sh .none) ρ'
  | none => .bad
/-- the list that an owned slot holds -/
def ownL (ρ : Rho) (i : Nat) : Option (List D) := match ρ[i]? with
  | some (.ow (.list ds)) => some ds
  | some (.io _ (.list ds)) => some ds
  | _ => none
/-- a list that is not shared, or a tuple -/
def newL (t : Tm) (i : Nat) (ρ : Rho) : Option (List D) := match t with
  | .ow (.list es) => some es
  | .sh (.tuple es) => some es
  | .br j => if i = j then none else ownL ρ j
  | _ => none
def popIx (ds : List D) : Option Int → Option Nat
  | none => if ds.isEmpty then none else some (ds.length - 1)
  | some j => if PopOk j then ixN ds.length j else none
def popE (i : Nat) (k : Option Int) (ρ : Rho) : Res Tm := match ownL ρ i with
  | none => .bad
  | some ds => match popIx ds k with
    | none => .bad
    | some n => match ds[n]?, chgI (fun ds => some (ds.eraseIdx n)) i ρ with
      | some d, some ρ' => .ok (.sh d) ρ'
      | _, _ => .bad
def lcT (ws : List Nat) (tg : Tg) (ec : Rho → Res Bool) (ee : Rho → Res Tm) (d : D) (ρ : Rho) : Res (Option D) := (onTg (asgTg tg d (clr ρ ws))).bind fun _ ρ3 => (ec ρ3).bind fun k ρ4 => if k then (ee ρ4).bind fun t ρ5 => (take t ρ5).bind fun x ρ6 => .ok (some x) ρ6 else .ok none ρ4
def lcT2 (ws : List Nat) (tg : Tg) (ei : Rho → Res (List D)) (turn : D → Rho → Res (Option D)) (d : D) (acc : List D) (ρ : Rho) : Res (List D) := (onTg (asgTg tg d (clr ρ ws))).bind fun _ ρ3 => (ei ρ3).bind fun ds1 ρ4 => lcL turn ds1 acc ρ4
def putIo (ρ : Rho) (i : Nat) (d : D) : Option Rho := match ρ[i]? with
  | some (.ow _) => some (ρ.set i (.ow d))
  | some (.io k _) => some (ρ.set i (.io k d))
  | _ => none
/-- what an owned slot holds -/
def ownD (ρ : Rho) (i : Nat) : Option D := match ρ[i]? with
  | some (.ow d) => some d
  | some (.io _ d) => some d
  | _ => none
/-- a dict that is not only looked at from outside -/
def dctD : Option D → Option (List (D × D))
  | some (.dict kvs) => if opq kvs then none else some kvs
  | _ => none
/-- d[k] = v in an owned slot -/
def dputI (i : Nat) (k v : D) (ρ : Rho) : Option Rho := match dctD (ownD ρ i) with
  | some kvs => if (keyT k).isSome ∧ Sm (kvs.length + 1) then putIo ρ i (.dict (dPut kvs k v)) else none
  | none => none
def getD1 (x : D) : D → D → Option (Bool × D)
  | .dict kvs, k => if opq kvs then none else if (keyT k).isSome then some (false, (dLook kvs k).getD x) else none
  | _, _ => none
def putIos (ρ : Rho) : List Nat → List D → Option Rho
  | [], [] => some ρ
  | i :: is, d :: ds => (putIo ρ i d).bind fun ρ' => putIos ρ' is ds
  | _, _ => none
/-- an argument -/
inductive Ar where
  | val (d : D)
  | io (i : Nat)
def arGet (ρ : Rho) : List Ar → Option (List D)
  | [] => some []
  | .val d :: as => (arGet ρ as).map (d :: ·)
  | .io i :: as => match ρ[i]? with
    | some (.ow d) => (arGet ρ as).map (d :: ·)
    | some (.io _ d) => (arGet ρ as).map (d :: ·)
    | _ => none
def arIos : List Ar → List Nat
  | [] => []
  | .val _ :: as => arIos as
  | .io i :: as => i :: arIos as
def doCall (m : Fn) (dv : List D) (as : List Ar) (ρ : Rho) : Res Tm := if (arIos as).Nodup then match arGet ρ as with
  | none => .bad
  | some ds => match m (ds ++ dv) with
    | .bad => .bad
    | .ok own d ios => match putIos ρ (arIos as) ios with
      | some ρ' => .ok (mkT own d) ρ'
      | none => .bad
    | .exc x ios => match putIos ρ (arIos as) ios with
      | some ρ' => .exc x ρ'
      | none => .bad
  else .bad
/-- the exception that a slot holds -/
def exAt (ρ : Rho) (i : Nat) : Option Ex := match ρ[i]? with
  | some (.ex x) => some x
  | _ => none
def setX (nm : Option Nat) (s : Sl) (ρ : Rho) : Rho := match nm with
  | some i => ρ.set i s
  | none => ρ
def Sl.notEx : Sl → Bool
  | .ex _ => false
  | _ => true
/-- no exception is held -/
def noEx (ρ : Rho) : Bool := ρ.all Sl.notEx
/-- a list that is not shared -/
def newT (t : Tm) (ρ : Rho) : Option (List D) := match t with
  | .ow (.list es) => some es
  | .br j => ownL ρ j
  | _ => none
/-- the distinct ones of a list -/
def dstL (ns : List Int) : List Int := ns.foldl (fun q a => if a ∈ q then q else q ++ [a]) []
/-- len(set(..)) of a few ints -/
def lsetD : D → Option (Bool × D)
  | .tuple ds => (intsOf ds).bind fun ns => if ns.length ≤ 1000 then some (false, .int (dstL ns).length) else none
  | _ => none
/-- a call behind its arguments, the first one new -/
def doCallN (m : Fn) (dv : List D) (t : Tm) (rs : List Ar) (ρ : Rho) : Res Tm := match t with
  | .ow d0 => if arIos rs = [] then match arGet ρ rs with
    | none => .bad
    | some ds => match m (d0 :: (ds ++ dv)) with
      | .bad => .bad
      | .ok own d _ => .ok (mkT own d) ρ
      | .exc x _ => .exc x ρ
    else .bad
  | _ => .bad
def isScal : D → Bool
  | .bool _ => true
  | .int _ => true
  | .none => true
  | _ => false
def doCallB (m : Fn) (dv : List D) (rs : List Ar) (ρ : Rho) : Res Tm := match arGet ρ rs with
  | none => .bad
  | some ds => match m (ds ++ dv) with
    | .ok false d [] => if isScal d = true then .ok (.sh d) ρ else .bad
    | _ => .bad
mutual
def evalE : E → Rho → Res Tm
  | .bad, _ => .bad
  | .var i, ρ => match ρ[i]? with
    | some (.sh d) => .ok (.sh d) ρ
    | some (.ow _) => .ok (.br i) ρ
    | some (.io _ _) => .ok (.br i) ρ
    | _ => .bad
  | .cst d, ρ => .ok (.sh d) ρ
  | .gv _ d, ρ => .ok (.sh d) ρ
  | .bin o a b, ρ => (evalE a ρ).bind fun t ρ1 => (evalE b ρ1).bind fun u ρ2 => op2 (binD o) t u ρ2
  | .neg a, ρ => (evalE a ρ).bind fun t ρ1 => op1 negD t ρ1
  | .cmp o a b, ρ => (evalE a ρ).bind fun t ρ1 => (evalE b ρ1).bind fun u ρ2 => op2 (cmpB o) t u ρ2
  | .chn o p a b c, ρ => (evalE a ρ).bind fun t ρ1 => (evalE b ρ1).bind fun u ρ2 => op2b (cmpD o) t u ρ2 fun k => if k then (evalE c ρ2).bind fun v ρ3 => op2 (cmpB p) u v ρ3 else .ok (.sh (.bool false)) ρ2
  | .bool k es, ρ => evalB k es ρ
  | .not_ a, ρ => (evalE a ρ).bind fun t ρ1 => op1 notD t ρ1
  | .ite t a b, ρ => (evalT t ρ).bind fun k ρ1 => if k then evalE a ρ1 else evalE b ρ1
  | .tup es, ρ => (evalEs es ρ).bind fun ts ρ1 => (takeAll ts ρ1).bind fun ds ρ2 => if Sm (ds.length) then .ok (.sh (.tuple ds)) ρ2 else .bad
  | .lst es, ρ => (evalEs es ρ).bind fun ts ρ1 => (takeAll ts ρ1).bind fun ds ρ2 => if Sm (ds.length) then .ok (.ow (.list ds)) ρ2 else .bad
  | .idx a b, ρ => (evalE a ρ).bind fun t ρ1 => (evalE b ρ1).bind fun u ρ2 => op2 idxD t u ρ2
  | .slc a lo hi, ρ => (evalE a ρ).bind fun t ρ1 => (evalO lo ρ1).bind fun l ρ2 => (evalO hi ρ2).bind fun h ρ3 => op1 (slcD l h) t ρ3
  | .rev a, ρ => (evalE a ρ).bind fun t ρ1 => op1 revD t ρ1
  | .bi b es, ρ => (evalEs es ρ).bind fun ts ρ1 => opN (biD b) ts ρ1
  | .isi ty a, ρ => (evalE a ρ).bind fun t ρ1 => op1 (fun d => (isiD ty d).map fun k => (false, .bool k)) t ρ1
  | .call _ m dv as, ρ => (evalAs as ρ).bind fun rs ρ1 => doCall m dv rs ρ1
  | .lset a, ρ => (evalE a ρ).bind fun t ρ1 => op1 lsetD t ρ1
  | .callb _ m dv as, ρ => (evalAs as ρ).bind fun rs ρ1 => doCallB m dv rs ρ1
  | .calln _ m dv e as, ρ => (evalE e ρ).bind fun t ρ1 => (evalAs as ρ1).bind fun rs ρ2 => doCallN m dv t rs ρ2
  | .app i e, ρ => if (ownL ρ i).isSome then (evalE e ρ).bind fun t ρ1 => (take t ρ1).bind fun d ρ2 => chgE (appAt d) i ρ2 else .bad
  | .ext i e, ρ => if (ownL ρ i).isSome then (evalE e ρ).bind fun t ρ1 => match newL t i ρ1 with
    | some es => chgE (extAt es) i ρ1
    | none => .bad
    else .bad
  | .pop i k, ρ => if (ownL ρ i).isSome then (evalO k ρ).bind fun j ρ1 => popE i j ρ1 else .bad
  | .rep a b, ρ => (evalE a ρ).bind fun t ρ1 => (evalE b ρ1).bind fun u ρ2 => match newT t ρ2, u.get ρ2 with
    | some ds, some (.int k) => if RepOk ds.length k then .ok (.ow (.list (repL k.toNat ds))) ρ2 else .bad
    | _, _ => .bad
  | .dnew, ρ => .ok (.ow (.dict [])) ρ
  | .odict i j, ρ => .ok (.sh (.dict [(.int i, .int j)])) ρ
  | .d1 k v, ρ => (evalE k ρ).bind fun t ρ1 => (take t ρ1).bind fun kd ρ2 => (evalE v ρ2).bind fun u ρ3 => (take u ρ3).bind fun vd ρ4 => if (keyT kd).isSome then .ok (.ow (.dict [(kd, vd)])) ρ4 else .bad
  | .dgt1 d k, ρ => (evalE d ρ).bind fun t ρ1 => match dctD (t.get ρ1) with
    | some _ => (evalE k ρ1).bind fun u ρ2 => op2 (getD1 .none) t u ρ2
    | none => .bad
  | .dgt2 d k x, ρ => (evalE d ρ).bind fun t ρ1 => match dctD (t.get ρ1) with
    | some _ => (evalE k ρ1).bind fun u ρ2 => (evalE x ρ2).bind fun w ρ3 => (take w ρ3).bind fun xd ρ4 => op2 (getD1 xd) t u ρ4
    | none => .bad
  | .dsf i k x, ρ => match dctD (ownD ρ i) with
    | some _ => (evalE k ρ).bind fun t ρ1 => (take t ρ1).bind fun kd ρ2 => (evalE x ρ2).bind fun u ρ3 => (take u ρ3).bind fun xd ρ4 => match dctD (ownD ρ4 i) with
      | some kvs => match dputI i kd xd ρ4 with
        | some ρ5 => match dLook kvs kd with
          | some d => .ok (.sh d) ρ4
          | none => .ok (.sh xd) ρ5
        | none => .bad
      | none => .bad
    | none => .bad
  | .clear i, ρ => if (ownL ρ i).isSome then chgE (fun _ => some []) i ρ else .bad
  | .isx i _ t, ρ => match exAt ρ i with
    | some x => match t.lookup x.cls with
      | some b => .ok (.sh (.bool b)) ρ
      | none => .bad
    | none => .bad
  | .ist i _ t, ρ => match exAt ρ i with
    | some x => match t.lookup x.cls with
      | some b => .ok (.sh (.bool b)) ρ
      | none => .bad
    | none => .bad
  | .plc i f cs, ρ => match exAt ρ i with
    | some x => if cs.contains x.cls then match x.fs.lookup f with
      | some d => .ok (.sh d) ρ
      | none => .bad
      else .bad
    | none => .bad
  | .lc own tg it c e, ρ => (evalI it ρ).bind fun ds ρ1 =>
    if (own.map (·.2)).all (plainAt ρ1) then
      (lcL (lcT (own.map (·.2)) tg (fun ρ => evalC c ρ) (fun ρ => evalE e ρ)) ds [] ρ1).noExc.bind fun acc ρ2 =>
      .ok (.ow (.list acc)) (rst ρ1 ρ2 (own.map (·.2)))
    else .bad
  | .lc2 own tg it tg1 it1 c e, ρ => (evalI it ρ).bind fun ds ρ1 =>
    if (own.map (·.2)).all (plainAt ρ1) then
      (lcL2 (lcT2 (own.map (·.2)) tg (fun ρ => evalI it1 ρ) (lcT (tgIx tg1) tg1 (fun ρ => evalC c ρ) (fun ρ => evalE e ρ))) ds [] ρ1).noExc.bind fun acc ρ2 =>
      .ok (.ow (.list acc)) (rst ρ1 ρ2 (own.map (·.2)))
    else .bad
/-- a comprehension's test -/
def evalC : Option T → Rho → Res Bool
  | none, ρ => .ok true ρ
  | some c, ρ => evalT c ρ
def evalEs : Es → Rho → Res (List Tm)
  | .nil, ρ => .ok [] ρ
  | .cons e es, ρ => (evalE e ρ).bind fun t ρ1 => (evalEs es ρ1).bind fun ts ρ2 => .ok (t :: ts) ρ2
def evalB (k : Bool) : Es → Rho → Res Tm
  | .nil, _ => .bad
  | .cons e es, ρ => match es with
    | .nil => evalE e ρ
    | es => (evalE e ρ).bind fun t ρ1 => match t.get ρ1 with
      | some (.bool b) => if b = k then evalB k es ρ1 else .ok (.sh (.bool b)) ρ1
      | _ => .bad
def evalAs : As → Rho → Res (List Ar)
  | .nil, ρ => .ok [] ρ
  | .val e as, ρ => (evalE e ρ).bind fun t ρ1 => (take t ρ1).bind fun d ρ2 => (evalAs as ρ2).bind fun rs ρ3 => .ok (.val d :: rs) ρ3
  | .io i as, ρ => match ρ[i]? with
    | some (.ow _) => (evalAs as ρ).bind fun rs ρ1 => .ok (.io i :: rs) ρ1
    | some (.io _ _) => (evalAs as ρ).bind fun rs ρ1 => .ok (.io i :: rs) ρ1
    | _ => .bad
def evalT : T → Rho → Res Bool
  | .tru e, ρ => (evalE e ρ).bind fun t ρ1 => truOf t ρ1
  | .cmp o a b, ρ => (evalE a ρ).bind fun t ρ1 => (evalE b ρ1).bind fun u ρ2 => op2b (cmpD o) t u ρ2 fun k => .ok k ρ2
  | .chn o p a b c, ρ => (evalE a ρ).bind fun t ρ1 => (evalE b ρ1).bind fun u ρ2 => op2b (cmpD o) t u ρ2 fun k => if k then (evalE c ρ2).bind fun v ρ3 => op2b (cmpD p) u v ρ3 fun k' => .ok k' ρ3 else .ok false ρ2
  | .bool k ts, ρ => evalTs k ts ρ
  | .not_ a, ρ => (evalT a ρ).bind fun k ρ1 => .ok (!k) ρ1
def evalTs (k : Bool) : Ts → Rho → Res Bool
  | .nil, _ => .bad
  | .cons t ts, ρ => match ts with
    | .nil => evalT t ρ
    | ts => (evalT t ρ).bind fun b ρ1 => if b = k then evalTs k ts ρ1 else .ok b ρ1
def evalO : O → Rho → Res (Option Int)
  | .no, ρ => .ok none ρ
  | .so e, ρ => (evalE e ρ).bind fun t ρ1 => match t.get ρ1 with
    | some (.int i) => .ok (some i) ρ1
    | _ => .bad
def evalI : I → Rho → Res (List D)
  | .lst e, ρ => (evalE e ρ).bind fun t ρ1 => (take t ρ1).bind fun d ρ2 => match itemsOf d with
    | some ds => .ok ds ρ2
    | none => .bad
  | .rng1 e, ρ => (evalE e ρ).bind fun t ρ1 => match t.get ρ1 with
    | some (.int j) => if RngOk j then .ok (rngD 0 j.toNat) ρ1 else .bad
    | _ => .bad
  | .rng2 a b, ρ => (evalE a ρ).bind fun t ρ1 => (evalE b ρ1).bind fun u ρ2 => match t.get ρ2, u.get ρ2 with
    | some (.int i), some (.int j) => if RngOk i ∧ RngOk j then .ok (rngD i (j - i).toNat) ρ2 else .bad
    | _, _ => .bad
  | .enum e, ρ => (evalE e ρ).bind fun t ρ1 => (take t ρ1).bind fun d ρ2 => match d with
    | .list ds => .ok (enumFrom 0 ds) ρ2
    | _ => .bad
  | .zip a b, ρ => (evalE a ρ).bind fun t ρ1 => (take t ρ1).bind fun d ρ2 => (evalE b ρ2).bind fun u ρ3 => (take u ρ3).bind fun d' ρ4 => match d, d' with
    | .list xs, .list ys => .ok (zipD xs ys) ρ4
    | .tuple xs, .tuple ys => .ok (zipD xs ys) ρ4
    | _, _ => .bad
end

inductive Out where
  | next (ρ : Rho)
  | brk (ρ : Rho)
  | cnt (ρ : Rho)
  | ret (t : Tm) (ρ : Rho)
  | exc (x : Ex) (ρ : Rho)
  | bad
def Res.out {α : Type} (r : Res α) (f : α → Rho → Out) : Out := match r with
  | .ok a ρ => f a ρ
  | .exc x ρ => .exc x ρ
  | .bad => .bad
def Out.seq (o : Out) (f : Rho → Out) : Out := match o with
  | .next ρ => f ρ
  | o => o
def nextO (o : Option Rho) : Out := match o with
  | some ρ => .next ρ
  | none => .bad
def asgS (i : Nat) (keep : Bool) (t : Tm) (ρ : Rho) : Out := match ρ[i]? with
  | some (.io _ _) => .bad
  | none => .bad
  | some _ => match keep, t with
    | true, .ow d => .next (ρ.set i (.ow d))
    | _, t => (take t ρ).out fun d ρ' => match ρ'[i]? with
      | some _ => .next (ρ'.set i (.sh d))
      | none => .bad
def augD (o : BOp) (a b : Int) : Option Int := match o with
  | .add => some (a + b)
  | .sub => some (a - b)
  | _ => none
/-- a, b = x, y: stored one after another -/
def parS : List Nat → List D → Rho → Option Rho
  | [], [], ρ => some ρ
  | i :: is, d :: ds, ρ => (asgTg (.nm i) d ρ).bind fun ρ' => parS is ds ρ'
  | _, _, _ => none
/-- the slots of fg are forgotten ahead of each turn and behind the last -/
def forL (body : Rho → Out) (tg : Tg) (fg : List Nat) : List D → Rho → Out
  | [], ρ => .next (clr ρ fg)
  | d :: ds, ρ => match asgTg tg d (clr ρ fg) with
    | none => .bad
    | some ρ1 => match body ρ1 with
      | .next ρ2 => forL body tg fg ds ρ2
      | .cnt ρ2 => forL body tg fg ds ρ2
      | .brk ρ2 => .next (clr ρ2 fg)
      | o => o
def whlL (test : Rho → Res Bool) (body : Rho → Out) (fg : List Nat) : Nat → Rho → Out
  | 0, _ => .bad
  | n + 1, ρ => (test (clr ρ fg)).out fun k ρ1 => if k then match body ρ1 with
      | .next ρ2 => whlL test body fg n ρ2
      | .cnt ρ2 => whlL test body fg n ρ2
      | .brk ρ2 => .next (clr ρ2 fg)
      | o => o
    else .next ρ1
mutual
def evalS (n : Nat) : S → Rho → Out
  | .bad, _ => .bad
  | .asg i keep e, ρ => (evalE e ρ).out fun t ρ1 => asgS i keep t ρ1
  | .asgT tg e, ρ => (evalE e ρ).out fun t ρ1 => (take t ρ1).out fun d ρ2 => nextO (asgTg tg d ρ2)
  | .setI i k e, ρ => (evalE e ρ).out fun t ρ1 => (take t ρ1).out fun d ρ2 => if (ownL ρ2 i).isSome then (evalE k ρ2).out fun u ρ3 => match u.get ρ3 with
    | some kd => nextO (chgI (setAt kd d) i ρ3)
    | none => .bad
    else .bad
  | .dput i k e, ρ => (evalE e ρ).out fun t ρ1 => (take t ρ1).out fun d ρ2 => match dctD (ownD ρ2 i) with
    | some _ => (evalE k ρ2).out fun u ρ3 => (take u ρ3).out fun kd ρ4 => nextO (dputI i kd d ρ4)
    | none => .bad
  | .aug i o e, ρ => match ρ[i]? with
    | some (.sh (.int a)) => (evalE e ρ).out fun t ρ1 => match t.get ρ1 with
      | some (.int b) => match augD o a b with
        | some c => nextO (asgTg (.nm i) (.int c) ρ1)
        | none => .bad
      | _ => .bad
    | _ => .bad
  | .augI i k o e, ρ => if (ownL ρ i).isSome then (evalE k ρ).out fun u ρ1 => match u.get ρ1, ownL ρ1 i with
    | some (.int j), some ds => if 0 ≤ j then match ds[j.toNat]? with
      | some (.int a) => (evalE e ρ1).out fun t ρ2 => match t.get ρ2 with
        | some (.int b) => match augD o a b with
          | some c => nextO (chgI (setAt (.int j) (.int c)) i ρ2)
          | none => .bad
        | _ => .bad
      | _ => .bad
      else .bad
    | _, _ => .bad
    else .bad
  | .par is es, ρ => (evalEs es ρ).out fun ts ρ1 => (takeAll ts ρ1).out fun ds ρ2 => nextO (parS is ds ρ2)
  | .expr e, ρ => (evalE e ρ).out fun _ ρ1 => .next ρ1
  | .ifs t a b, ρ => (evalT t ρ).out fun k ρ1 => if k then evalSs n a ρ1 else evalSs n b ρ1
  | .for_ fg tg it b, ρ => (evalI it ρ).out fun ds ρ1 => forL (evalSs n b) tg fg ds ρ1
  | .whl fg t b, ρ => whlL (evalT t) (evalSs n b) fg n ρ
  | .ret e, ρ => (evalE e ρ).out fun t ρ1 => .ret t ρ1
  | .retN, ρ => .ret (.sh .none) ρ
  | .rais c _, ρ => .exc ⟨c, []⟩ ρ
  | .raip c f _ e, ρ => (evalE e ρ).out fun t ρ1 => (take t ρ1).out fun d ρ2 => .exc ⟨c, [(f, d)]⟩ ρ2
  | .try_ b hs, ρ => match evalSs n b ρ with
    | .exc x ρ' => evalHs n hs x ρ'
    | o => o
  | .brk, ρ => .brk ρ
  | .cnt, ρ => .cnt ρ
  | .pass, ρ => .next ρ
def evalSs (n : Nat) : Ss → Rho → Out
  | .nil, ρ => .next ρ
  | .cons s ss, ρ => (evalS n s ρ).seq fun ρ1 => evalSs n ss ρ1
  | .fgt fg ss, ρ => evalSs n ss (clr ρ fg)
def evalHs (n : Nat) : Hs → Ex → Rho → Out
  | .nil, x, ρ => .exc x ρ
  | .cons _ t nm b hs, x, ρ => match t.lookup x.cls with
    | some true => match evalSs n b (setX nm (.ex x) ρ) with
      | .next ρ' => if noEx (setX nm .un ρ') then .next (setX nm .un ρ') else .bad
      | _ => .bad
    | some false => evalHs n hs x ρ
    | none => .bad
end

/-! ### a def -/
structure Def where
  /-- how many parameters, which of them may be changed (their number among these), how many slots beside -/
  pars : List (Option Nat)
  more : Nat
  body : Ss
def parSl : List (Option Nat) → List D → Option Rho
  | [], [] => some []
  | none :: ps, d :: ds => (parSl ps ds).map (.sh d :: ·)
  | some k :: ps, d :: ds => (parSl ps ds).map (.io k d :: ·)
  | _, _ => none
/-- what the changed parameters hold at the end -/
def iosOf : List (Option Nat) → Rho → Option (List D)
  | [], _ => some []
  | none :: ps, _ :: ρ => iosOf ps ρ
  | some k :: ps, .io k' d :: ρ => if k = k' then (iosOf ps ρ).map (d :: ·) else none
  | _, _ => none
def Def.start (f : Def) (ds : List D) : Option Rho := (parSl f.pars ds).map (· ++ List.replicate f.more .un)
def endRet (f : Def) (t : Tm) (ρ : Rho) : FRes := match t with
  | .ow d => match iosOf f.pars ρ with
    | some ios => .ok true d ios
    | none => .bad
  | .sh d => match iosOf f.pars ρ with
    | some ios => .ok false d ios
    | none => .bad
  | .br i => match ρ[i]?, iosOf f.pars ρ with
    | some (.ow d), some ios => .ok true d ios
    | some (.sh d), some ios => .ok false d ios
    | _, _ => .bad
  | .un => .bad
def Def.run (f : Def) (n : Nat) : Fn := fun ds => match f.start ds with
  | none => .bad
  | some ρ => match evalSs n f.body ρ with
    | .next ρ' => endRet f (.sh .none) ρ'
    | .ret t ρ' => endRet f t ρ'
    | .exc x ρ' => match iosOf f.pars ρ' with
      | some ios => .exc x ios
      | none => .bad
    | _ => .bad
end
end Ev

-- EvD
/-! EvD: dicts whose keys are tuples. -/
namespace Ev
open PySem L2
section
variable {X : Cx} {pins : List (Addr × Obj)} {σ : St} {H S : Hp} {s : Shared} {a : Addr}
mutual
/-- a value that stands for a key's data is the key -/
theorem nested_of (I : Inv X pins σ H s) : ∀ (d : D) {v : V} {u : Value} {k : NestedKey}, Rp (kx X) H v d → keyOf d = some k → RelV v u → NestedIs s.heap k u
  | .none, v, u, k, h, e, r => by
    simp only [keyOf] at e; cases e; cases h; cases r; exact .none
  | .int i, v, u, k, h, e, r => by
    simp only [keyOf] at e; cases e; cases h; obtain ⟨t, rfl⟩ := r; exact .int i t
  | .str x, v, u, k, h, e, r => by
    simp only [keyOf] at e; cases e; cases h; obtain ⟨t, rfl⟩ := r; exact .text x t
  | .tuple ds, v, u, k, h, e, r => by
    simp only [keyOf] at e
    split at e
    · rename_i ks eks
      cases e
      cases h with
      | tup hT hr =>
        obtain ⟨its, r1, ⟨⟨cls, dd, data, sl⟩, ho, hc, n, hd⟩, hs⟩ := I.tuple hT
        cases r
        exact .tup ho hc hd (by simpa using nesteds_of I ds hr eks r1)
    · cases e
  | .bool _, v, u, k, h, e, r => by simp only [keyOf] at e; cases e
  | .list _, v, u, k, h, e, r => by simp only [keyOf] at e; cases e
  | .dict _, v, u, k, h, e, r => by simp only [keyOf] at e; cases e
theorem nesteds_of (I : Inv X pins σ H s) : ∀ (ds : List D) {vs : List V} {us : List Value} {ks : List NestedKey}, Rps (kx X) H vs ds → keysOf ds = some ks → Vals vs us → NestedAll s.heap ks us
  | [], vs, us, ks, h, e, r => by
    simp only [keysOf] at e; cases e; cases h; cases r; exact .nil
  | d :: ds, vs, us, ks, h, e, r => by
    simp only [keysOf] at e
    split at e
    · rename_i k ks' e1 e2
      cases e
      cases h with
      | cons h1 h2 =>
        cases r with
        | cons r1 r2 => exact .cons (nested_of I d h1 e1 r1) (nesteds_of I ds h2 e2 r2)
    · cases e
end
/-- the entries by values -/
abbrev EV : List (NestedKey × Addr × V) → List (NestedKey × Addr × Value) → Prop := Paired fun p q => p.1 = q.1 ∧ p.2.1 = q.2.1 ∧ RelV p.2.2 q.2.2
theorem EV.keys : ∀ {es : List (NestedKey × Addr × V)} {xs : List (NestedKey × Addr × Value)}, EV es xs → es.map (·.1) = xs.map (·.1)
  | _, _, .nil => rfl
  | _, _, .cons h r => by rw [List.map_cons, List.map_cons, h.1, EV.keys r]
theorem ents_is (I : Inv X pins σ H s) (e : Ext S H) : ∀ {es : List (NestedKey × Addr × V)} {kvs : List (D × D)} {xs : List (NestedKey × Addr × Value)}, Ents (kx X) S es kvs → EV es xs → ∀ x ∈ xs, NestedIs s.heap x.1 (.ref x.2.1) ∧ x.1.depth ≤ 8
  | _, _, _, .nil, .nil, x, hx => by cases hx
  | _, _, _, .cons h k v r, .cons p q, x, hx => by
    rcases List.mem_cons.mp hx with rfl | hx
    · obtain ⟨k1, k2, _⟩ := keyT_of k
      rw [← p.1, ← p.2.1]
      exact ⟨nested_of I _ (h.ext e) k1 rfl, k2⟩
    · exact ents_is I e r q x hx
/-- a dict, read -/
theorem dct_of (I : Inv X pins σ H s) (e : Ext S H) {ob : Obj} {es : List (NestedKey × Addr × V)} {kvs : List (D × D)} (hd : H a = some (dN X.w a ob es)) (r : Ents (kx X) S es kvs) :
    ∃ xs, s.heap.DictOfH (nestedKind X.prog X.w) a xs ∧ EV es xs ∧ (a == sysModules) = false ∧ es.length ≤ sizeLine ∧ xs.length ≤ sizeLine := by
  obtain ⟨⟨z, hm, nd, xs, p, des, ep, ho, hx, hdat, hl⟩, _, _⟩ := I.hok a _ hd
  refine ⟨xs, ⟨_, des, ep, ho, hx, hdat, hl, fun x hx => ents_is I e r p x hx, by rw [← EV.keys p]; exact nd⟩, p, hm, z, by rw [← Paired.length p]; exact z⟩
/-- looking a key up -/
theorem look_of {K : Fw} {k : NestedKey} {d : D} (hk : keyT d = some k) : ∀ {es : List (NestedKey × Addr × V)} {kvs : List (D × D)} {xs : List (NestedKey × Addr × Value)}, Ents K S es kvs → EV es xs →
    (∃ vd q v, dLook kvs d = some vd ∧ atKey xs k = some q ∧ RelV v q.2 ∧ Rp K S v vd) ∨ (dLook kvs d = none ∧ atKey xs k = none)
  | _, _, _, .nil, .nil => .inr ⟨rfl, rfl⟩
  | _, _, _, .cons (k := k') (kd := kd) (d := vd) (v := v) h kk hv r, .cons (b := q) p t => by
    by_cases e : kd = d
    · subst e
      rw [hk] at kk
      cases kk
      refine .inl ⟨vd, q.2, v, ?_, ?_, p.2.2, hv⟩
      · unfold dLook; rw [List.find?_cons, decide_eq_true rfl]; rfl
      · unfold atKey; rw [List.find?_cons, decide_eq_true p.1.symm]; rfl
    · have hne : ¬ q.1 = k := fun z => e (keyT_inj kk (by rw [hk, ← z, ← p.1]))
      have e1 : ∀ l, dLook ((kd, vd) :: l) d = dLook l d := fun l => by unfold dLook; rw [List.find?_cons, decide_eq_false e]
      have e2 : ∀ l, atKey (q :: l) k = atKey l k := fun l => by unfold atKey; rw [List.find?_cons, decide_eq_false hne]
      rw [e1, e2]
      exact look_of hk r t
def putE (es : List (NestedKey × Addr × V)) (k : NestedKey) (b : Addr) (v : V) : List (NestedKey × Addr × V) := if (es.find? fun p => decide (p.1 = k)).isSome then es.map fun p => if p.1 = k then (p.1, p.2.1, v) else p else es ++ [(k, b, v)]
theorem EV.find {k : NestedKey} : ∀ {es : List (NestedKey × Addr × V)} {xs : List (NestedKey × Addr × Value)}, EV es xs → (es.find? fun p => decide (p.1 = k)).isSome = (atKey xs k).isSome
  | _, _, .nil => rfl
  | _, _, .cons (a := p) (b := q) h r => by
    unfold atKey
    rw [List.find?_cons, List.find?_cons, h.1]
    by_cases e : q.1 = k
    · rw [decide_eq_true e]; rfl
    · rw [decide_eq_false e]
      have := EV.find (k := k) r
      unfold atKey at this
      exact this
theorem EV.map {k : NestedKey} {v : V} {u : Value} (rv : RelV v u) : ∀ {es : List (NestedKey × Addr × V)} {xs : List (NestedKey × Addr × Value)}, EV es xs → EV (es.map fun p => if p.1 = k then (p.1, p.2.1, v) else p) (xs.map (putAt k u))
  | _, _, .nil => .nil
  | _, _, .cons (a := p) (b := q) h r => by
    rw [List.map_cons, List.map_cons]
    refine .cons ?_ (EV.map rv r)
    unfold putAt
    rw [h.1]
    by_cases e : q.1 = k
    · rw [if_pos e, if_pos e]; exact ⟨rfl, h.2.1, rv⟩
    · rw [if_neg e, if_neg e]; exact h
theorem Paired.snoc {α β : Type} {F : α → β → Prop} {a : α} {b : β} (h : F a b) : ∀ {l₁ : List α} {l₂ : List β}, Paired F l₁ l₂ → Paired F (l₁ ++ [a]) (l₂ ++ [b])
  | _, _, .nil => .cons h .nil
  | _, _, .cons r t => .cons r (Paired.snoc h t)
theorem EV.put {k : NestedKey} {b : Addr} {v : V} {u : Value} (rv : RelV v u) {es : List (NestedKey × Addr × V)} {xs : List (NestedKey × Addr × Value)} (p : EV es xs) : EV (putE es k b v) (storedH xs k b u) := by
  unfold putE storedH
  rw [EV.find p]
  split
  · exact EV.map rv p
  · exact Paired.snoc ⟨rfl, rfl, rv⟩ p
theorem putE_len (es : List (NestedKey × Addr × V)) (k : NestedKey) (b : Addr) (v : V) : (putE es k b v).length ≤ es.length + 1 := by
  unfold putE
  split
  · rw [List.length_map]; omega
  · rw [List.length_append, List.length_singleton]; omega
theorem Ents.length {K : Fw} : ∀ {es : List (NestedKey × Addr × V)} {kvs : List (D × D)}, Ents K S es kvs → es.length = kvs.length
  | _, _, .nil => rfl
  | _, _, .cons _ _ _ r => congrArg (· + 1) (Ents.length r)
theorem Ents.find {K : Fw} {k : NestedKey} {d : D} (hk : keyT d = some k) : ∀ {es : List (NestedKey × Addr × V)} {kvs : List (D × D)}, Ents K S es kvs → (es.find? fun p => decide (p.1 = k)).isSome = (dLook kvs d).isSome
  | _, _, .nil => rfl
  | _, _, .cons (k := k') (kd := kd) h kk hv r => by
    unfold dLook
    rw [List.find?_cons, List.find?_cons]
    by_cases e : kd = d
    · subst e
      rw [hk] at kk
      cases kk
      rw [decide_eq_true rfl, decide_eq_true rfl]; rfl
    · have hne : ¬ k' = k := fun z => e (keyT_inj kk (by rw [hk, ← z]))
      rw [decide_eq_false e, decide_eq_false hne]
      have := Ents.find hk r
      unfold dLook at this
      exact this
theorem Ents.map {K : Fw} {k : NestedKey} {d vd : D} {v : V} (hk : keyT d = some k) (hv : Rp K S v vd) : ∀ {es : List (NestedKey × Addr × V)} {kvs : List (D × D)}, Ents K S es kvs → Ents K S (es.map fun p => if p.1 = k then (p.1, p.2.1, v) else p) (kvs.map (fun p => if p.1 = d then (p.1, vd) else p))
  | _, _, .nil => .nil
  | _, _, .cons (k := k') (kd := kd) h kk hv' r => by
    rw [List.map_cons, List.map_cons]
    by_cases e : kd = d
    · subst e
      rw [hk] at kk
      cases kk
      rw [if_pos rfl, if_pos rfl]
      exact .cons h hk hv (Ents.map hk hv r)
    · have hne : ¬ k' = k := fun z => e (keyT_inj kk (by rw [hk, ← z]))
      rw [if_neg e, if_neg hne]
      exact .cons h kk hv' (Ents.map hk hv r)
theorem Ents.snoc {K : Fw} {k : NestedKey} {b : Addr} {d vd : D} {v : V} (hb : Rp K S (.ref b) d) (hk : keyT d = some k) (hv : Rp K S v vd) : ∀ {es : List (NestedKey × Addr × V)} {kvs : List (D × D)}, Ents K S es kvs → Ents K S (es ++ [(k, b, v)]) (kvs ++ [(d, vd)])
  | _, _, .nil => .cons hb hk hv .nil
  | _, _, .cons h kk hv' r => .cons h kk hv' (Ents.snoc hb hk hv r)
theorem Ents.put {K : Fw} {k : NestedKey} {b : Addr} {d vd : D} {v : V} (hb : Rp K S (.ref b) d) (hk : keyT d = some k) (hv : Rp K S v vd) {es : List (NestedKey × Addr × V)} {kvs : List (D × D)} (r : Ents K S es kvs) : Ents K S (putE es k b v) (dPut kvs d vd) := by
  unfold putE dPut
  rw [r.find hk]
  split
  · exact r.map hk hv
  · exact r.snoc hb hk hv
/-- the key's value -/
theorem key_ref {K : Fw} {v : V} {d : D} {k : NestedKey} (h : Rp K S v d) (hk : keyT d = some k) : ∃ b, v = .ref b := by
  obtain ⟨_, _, ds, rfl⟩ := keyT_of hk
  cases h
  exact ⟨_, rfl⟩
/-- d[k] -/
theorem dct_get (hu : X.A.units + 66 < cLine) (I : Inv X pins σ H s) (e : Ext S H) {ob : Obj} {es : List (NestedKey × Addr × V)} {kvs : List (D × D)} (hd : H a = some (dN X.w a ob es)) (r : Ents (kx X) S es kvs) {y : V} {u : Value} {d vd : D} {k : NestedKey} (hy : Rp (kx X) S y d) (hk : keyT d = some k) (ry : RelV y u) (hl : dLook kvs d = some vd)
    {Q : Value → Shared → Prop} {E : Value → Shared → Prop} (h : ∀ v w' s', Inv X pins σ H s' → RelV v w' → Rp (kx X) S v vd → Q w' s') : wpAny (model X.prog X.w) X.A (getItem (.ref a) u) Q E s := by
  obtain ⟨xs, dd, p, hm, z, z2⟩ := dct_of I e hd r
  obtain ⟨b, rfl⟩ := key_ref hy hk
  cases ry
  obtain ⟨k1, k2, _⟩ := keyT_of hk
  rcases look_of hk r p with ⟨vd', q, v, l1, l2, l3, l4⟩ | ⟨l1, _⟩
  · rw [hl] at l1
    cases l1
    exact wpAny_getItem_heap (knd := nestedKind X.prog X.w) (k := k) (by show X.A.units + 1 + 8 < cLine; omega) ⟨nested_of I _ (hy.ext e) k1 rfl, k2⟩ dd l2 (h v q.2 _ (I.tok _) l3 l4)
  · rw [hl] at l1; cases l1
/-- k in d -/
theorem dct_in (hu : X.A.units + 66 < cLine) (I : Inv X pins σ H s) (e : Ext S H) {ob : Obj} {es : List (NestedKey × Addr × V)} {kvs : List (D × D)} (hd : H a = some (dN X.w a ob es)) (r : Ents (kx X) S es kvs) {y : V} {u : Value} {d : D} {k : NestedKey} (hy : Rp (kx X) S y d) (hk : keyT d = some k) (ry : RelV y u)
    {Q : Value → Shared → Prop} {E : Value → Shared → Prop} (h : ∀ s', Inv X pins σ H s' → Q (.bool (dLook kvs d).isSome) s') : wpAny (model X.prog X.w) X.A (compareOp .In u (.ref a)) Q E s := by
  obtain ⟨xs, dd, p, hm, z, z2⟩ := dct_of I e hd r
  obtain ⟨b, rfl⟩ := key_ref hy hk
  cases ry
  obtain ⟨k1, k2, _⟩ := keyT_of hk
  refine wpAny_in_heap (knd := nestedKind X.prog X.w) (k := k) (by show X.A.units + 1 + 8 < cLine; omega) ⟨nested_of I _ (hy.ext e) k1 rfl, k2⟩ hm dd ?_
  rw [← EV.find p, r.find hk]
  exact h _ (I.tok _)
theorem dct_notIn (hu : X.A.units + 66 < cLine) (I : Inv X pins σ H s) (e : Ext S H) {ob : Obj} {es : List (NestedKey × Addr × V)} {kvs : List (D × D)} (hd : H a = some (dN X.w a ob es)) (r : Ents (kx X) S es kvs) {y : V} {u : Value} {d : D} {k : NestedKey} (hy : Rp (kx X) S y d) (hk : keyT d = some k) (ry : RelV y u)
    {Q : Value → Shared → Prop} {E : Value → Shared → Prop} (h : ∀ s', Inv X pins σ H s' → Q (.bool (!(dLook kvs d).isSome)) s') : wpAny (model X.prog X.w) X.A (compareOp .NotIn u (.ref a)) Q E s := by
  obtain ⟨xs, dd, p, hm, z, z2⟩ := dct_of I e hd r
  obtain ⟨b, rfl⟩ := key_ref hy hk
  cases ry
  obtain ⟨k1, k2, _⟩ := keyT_of hk
  refine PyProof.Rows.wpAny_notIn_heap (knd := nestedKind X.prog X.w) (k := k) (by show X.A.units + 1 + 8 < cLine; omega) ⟨nested_of I _ (hy.ext e) k1 rfl, k2⟩ hm dd ?_
  rw [← EV.find p, r.find hk]
  exact h _ (I.tok _)
theorem dN_ok {P : Program} {h' : Heap} {w : World} {es : List (NestedKey × Addr × V)} {xs : List (NestedKey × Addr × Value)} (z : es.length ≤ sizeLine) (hm : (a == sysModules) = false) (p : EV es xs) (dd : h'.DictOfH (nestedKind P w) a xs) : ∃ o, ∀ H' : Hp, ObjOk P w H' h' a (dN w a o es) := by
  obtain ⟨o, des, ep, ho, hx, hdat, hl, _, nd⟩ := dd
  refine ⟨o, fun H' => ⟨⟨z, hm, by rw [EV.keys p]; exact nd, xs, p, des, ep, ho, hx, hdat, hl⟩, ⟨o, ho⟩, ?_⟩⟩
  rintro h1 h2 ⟨z, hm, nd, xs, p, des, ep, ho, hx, hdat, hl⟩ k
  exact ⟨z, hm, nd, xs, p, des, ep, k _ ho, hx, hdat, hl⟩
/-- d[k] = v -/
theorem dct_set (hu : X.A.units + 66 < cLine) (I : Inv X pins σ H s) (e : Ext S H) {ob : Obj} {es : List (NestedKey × Addr × V)} {kvs : List (D × D)} (hd : H a = some (dN X.w a ob es)) (r : Ents (kx X) S es kvs) {b : Addr} {d : D} {k : NestedKey} (hy : Rp (kx X) S (.ref b) d) (hk : keyT d = some k) {v : V} {u : Value} (rv : RelV v u) (hz : es.length + 1 ≤ sizeLine)
    {Q : Unit → Shared → Prop} {E : Value → Shared → Prop} (h : ∀ o s', Inv X pins σ (upd H a (dN X.w a o (putE es k b v))) s' → Q () s') : wpAny (model X.prog X.w) X.A (setItem (.ref a) (.ref b) u) Q E s := by
  obtain ⟨xs, dd, p, hm, z, z2⟩ := dct_of I e hd r
  obtain ⟨k1, k2, _⟩ := keyT_of hk
  refine wpAny_setItem_heap (knd := nestedKind X.prog X.w) (k := k) (hsz := z2) (by show X.A.units + 1 + 8 < cLine; omega) ⟨nested_of I _ (hy.ext e) k1 rfl, k2⟩ dd fun h' dd' hs => ?_
  have he : ∃ q, h'.get? a = some q := let ⟨q, _, _, hq, _⟩ := dd'; ⟨q, hq⟩
  obtain ⟨o, ok⟩ := dN_ok (P := X.prog) (w := X.w) (Nat.le_trans (putE_len ..) hz) hm (EV.put rv p) dd'
  exact h o _ (d_write I (by rw [hd]; exact True.intro) hs he (ok _))
/-- d.get(k), d.get(k, x) -/
theorem dct_get1 (hu : X.A.units + 66 < cLine) (I : Inv X pins σ H s) (e : Ext S H) {ob : Obj} {es : List (NestedKey × Addr × V)} {kvs : List (D × D)} (hd : H a = some (dN X.w a ob es)) (r : Ents (kx X) S es kvs) {y : V} {u : Value} {d : D} {k : NestedKey} (hy : Rp (kx X) S y d) (hk : keyT d = some k) (ry : RelV y u)
    {Q : Value → Shared → Prop} {E : Value → Shared → Prop} (h : ∀ v w' s', Inv X pins σ H s' → RelV v w' → Rp (kx X) S v ((dLook kvs d).getD .none) → Q w' s') : wpAny (model X.prog X.w) X.A (call (.builtin "dict.get") [.ref a, u]) Q E s := by
  obtain ⟨xs, dd, p, hm, z, z2⟩ := dct_of I e hd r
  obtain ⟨b, rfl⟩ := key_ref hy hk
  cases ry
  obtain ⟨k1, k2, _⟩ := keyT_of hk
  refine call_meetsIn PySem.F.slot_dict_get dd.typeIs PySem.F.entry_dict_get (PySem.F.args_dict_get_2 _ _) (meetsH_dict_get (nestedKind X.prog X.w) a b hm) ⟨by show X.A.units + 1 + 8 < cLine; omega, k, xs, ⟨nested_of I _ (hy.ext e) k1 rfl, k2⟩, dd, ?_⟩
  rcases look_of hk r p with ⟨vd', q, v, l1, l2, l3, l4⟩ | ⟨l1, l2⟩
  · rw [l2]
    exact h v _ _ (I.tok _) l3 (by rw [l1]; exact l4)
  · rw [l2]
    exact h .non _ _ (I.tok _) rfl (by rw [l1]; exact .non)
theorem dct_get2 (hu : X.A.units + 66 < cLine) (I : Inv X pins σ H s) (e : Ext S H) {ob : Obj} {es : List (NestedKey × Addr × V)} {kvs : List (D × D)} (hd : H a = some (dN X.w a ob es)) (r : Ents (kx X) S es kvs) {y : V} {u : Value} {d : D} {k : NestedKey} (hy : Rp (kx X) S y d) (hk : keyT d = some k) (ry : RelV y u)
    {x : V} {xu : Value} {xd : D} (rx : RelV x xu) (hx : Rp (kx X) S x xd)
    {Q : Value → Shared → Prop} {E : Value → Shared → Prop} (h : ∀ v w' s', Inv X pins σ H s' → RelV v w' → Rp (kx X) S v ((dLook kvs d).getD xd) → Q w' s') : wpAny (model X.prog X.w) X.A (call (.builtin "dict.get") [.ref a, u, xu]) Q E s := by
  obtain ⟨xs, dd, p, hm, z, z2⟩ := dct_of I e hd r
  obtain ⟨b, rfl⟩ := key_ref hy hk
  cases ry
  obtain ⟨k1, k2, _⟩ := keyT_of hk
  refine call_meetsIn PySem.F.slot_dict_get dd.typeIs PySem.F.entry_dict_get (PySem.F.args_dict_get_3 _ _ _) (meetsH_dict_get_default (nestedKind X.prog X.w) a b hm xu) ⟨by show X.A.units + 1 + 8 < cLine; omega, k, xs, ⟨nested_of I _ (hy.ext e) k1 rfl, k2⟩, dd, ?_⟩
  rcases look_of hk r p with ⟨vd', q, v, l1, l2, l3, l4⟩ | ⟨l1, l2⟩
  · rw [l2]
    exact h v _ _ (I.tok _) l3 (by rw [l1]; exact l4)
  · rw [l2]
    exact h x _ _ (I.tok _) rx (by rw [l1]; exact hx)
/-- d.setdefault(k, x) -/
theorem dct_sdf (hu : X.A.units + 66 < cLine) (I : Inv X pins σ H s) (e : Ext S H) {ob : Obj} {es : List (NestedKey × Addr × V)} {kvs : List (D × D)} (hd : H a = some (dN X.w a ob es)) (r : Ents (kx X) S es kvs) {b : Addr} {d : D} {k : NestedKey} (hy : Rp (kx X) S (.ref b) d) (hk : keyT d = some k)
    {x : V} {xu : Value} (rx : RelV x xu) (hz : es.length + 1 ≤ sizeLine)
    {Q : Value → Shared → Prop} {E : Value → Shared → Prop} (h1 : ∀ vd v w' s', dLook kvs d = some vd → Inv X pins σ H s' → RelV v w' → Rp (kx X) S v vd → Q w' s')
    (h2 : ∀ o s', dLook kvs d = none → Inv X pins σ (upd H a (dN X.w a o (putE es k b x))) s' → Q xu s') : wpAny (model X.prog X.w) X.A (call (.builtin "dict.setdefault") [.ref a, .ref b, xu]) Q E s := by
  obtain ⟨xs, dd, p, hm, z, z2⟩ := dct_of I e hd r
  obtain ⟨k1, k2, _⟩ := keyT_of hk
  refine call_setdefault_heap (knd := nestedKind X.prog X.w) (k := k) (hsz := z2) (by show X.A.units + 1 + 8 < cLine; omega) ⟨nested_of I _ (hy.ext e) k1 rfl, k2⟩ hm dd (fun q hq => ?_) fun hn h' dd' hs => ?_
  · rcases look_of hk r p with ⟨vd', q', v, l1, l2, l3, l4⟩ | ⟨l1, l2⟩
    · rw [hq] at l2
      cases l2
      exact h1 _ v _ _ l1 (I.tok _) l3 l4
    · rw [hq] at l2; cases l2
  · have hn' : dLook kvs d = none := by
      rcases look_of hk r p with ⟨vd', q', v, l1, l2, l3, l4⟩ | ⟨l1, l2⟩
      · rw [hn] at l2; cases l2
      · exact l1
    have he : ∃ q, h'.get? a = some q := let ⟨q, _, _, hq, _⟩ := dd'; ⟨q, hq⟩
    obtain ⟨o, ok⟩ := dN_ok (P := X.prog) (w := X.w) (Nat.le_trans (putE_len ..) hz) hm (EV.put rx p) dd'
    exact h2 o _ hn' (d_write I (by rw [hd]; exact True.intro) hs he (ok _))
/-- {} -/
theorem dct_new {h : Heap} {P : Program} {w : World} (hb : sysModules < h.objs.size) : ∃ o, ∀ H' : Hp, ObjOk P w H' (h.push { cls := .type "dict", data := .dict #[] }) h.objs.size (dN w h.objs.size o []) :=
  dN_ok (Nat.zero_le _) (beq_eq_false_iff_ne.mpr (Ne.symm (Nat.ne_of_lt hb))) .nil (Heap.DictOfH.new h)
end
end Ev

-- EvR
/-! EvR: a tuple times 1, 0 or less. -/
namespace Ev
open PySem L2 PySem.Spec PyProof.Rows
theorem mul_one_t (l : Addr) (items : Array Value) (n : Nat) (dd : Option Addr) (sl : Array (Option Value)) (u : Tok) :
    Meets (Builtin.«tuple.__mul__» ⟨[.ref l, .int 1 u], []⟩) (fun _ R s => s.heap.get? l = some { cls := .type "tuple", dict := dd, data := .seq items n, slots := sl } ∧ R (.ok (.ret (Value.ref l))) s) :=
  .of_wp fun prog w A R s h => by
    obtain ⟨hp, g, d, tk, os⟩ := s
    obtain ⟨hl, h⟩ := h
    have f1 := AutoSeq1.idx_int
    wp_walk using wpAny_loadPart' hl
    exact ⟨_, rfl, h⟩
theorem mul_none_t (l : Addr) (items : Array Value) (n : Nat) (dd : Option Addr) (sl : Array (Option Value)) (x : Int) (u : Tok) (c0 : (decide (x < -(2 ^ 63)) || decide (x ≥ 2 ^ 63)) = false) (c1 : (items.isEmpty || x == 1) = false) (c2 : (decide (x ≤ 0) || items.isEmpty) = true) :
    Meets (Builtin.«tuple.__mul__» ⟨[.ref l, .int x u], []⟩) (fun _ R s => s.heap.get? l = some { cls := .type "tuple", dict := dd, data := .seq items n, slots := sl } ∧
      R (.ok (.ret (Value.ref s.heap.objs.size))) { s with heap := s.heap.push { cls := Value.type "tuple", data := Data.seq #[] }, toks := s.toks }) :=
  .of_wp fun prog w A R s h => by
    obtain ⟨hp, g, d, tk, os⟩ := s
    obtain ⟨hl, h⟩ := h
    have f1 := AutoSeq1.idx_int
    wp_walk using wpAny_loadPart' hl
    repeat (first
      | (refine wpAny_ite_false (decide_eq_false (by rw [c0]; exact Bool.false_ne_true)) ?_; wp_walk using wpAny_loadPart' hl)
      | (refine wpAny_ite_false (decide_eq_false (by rw [c1]; exact Bool.false_ne_true)) ?_; wp_walk using wpAny_loadPart' hl)
      | (refine wpAny_ite_true (decide_eq_true c2) ?_; wp_walk using wpAny_loadPart' hl))
    exact ⟨_, rfl, h⟩
def rRep1 (K : PySem.W.Frag) : R2 := fun x y H Q => ∃ l k xs, x = .ref l ∧ y = .int k ∧ SqT K H l xs ∧ xs ≠ [] ∧ ((k = 1 ∧ Q (.ref l) H) ∨ (k ≤ 0 ∧ -(2 ^ 63) ≤ k ∧ ∀ p, H p = none → Q (.ref p) (upd H p (.tup []))))
theorem op_rep1 {X : Cx} : OpR X (binaryOp .Mult) (rRep1 X.K) := by
  intro pins s σ H x y v u Q I rx ry ⟨l, k, xs, e1, e2, hT, hne, h⟩
  subst e1 e2
  cases rx
  obtain ⟨t, rfl⟩ := ry
  obtain ⟨its, r, ⟨⟨cls, dd, data, sl⟩, ho, hc, n, hd⟩, hs⟩ := I.tuple hT
  simp only at hc hd
  subst hc hd
  have hle : its.length = xs.length := r.length.symm
  have hi : its.toArray.isEmpty = false := by
    cases its with
    | nil => exact absurd (List.eq_nil_of_length_eq_zero hle.symm) hne
    | cons a b => rfl
  rcases h with ⟨rfl, q⟩ | ⟨h0, h1, q⟩
  · exact wpAny_binaryOp_repeat_ref (T := "tuple") (U := "int") (by decide) ⟨_, ho, rfl⟩ (fun s' => typeIs_int s' 1 t) noFill_tuple_mul F.fills_int_mul F.slot_int_rmul repeat_tuple F.slot_int_index.lookup
      (call_meets F.slot_int_rmul (typeIs_int s 1 t) F.entry_int_rmul (F.args_int_rmul_2 _ _) (int_rmul_tuple 1 t l its.toArray n dd sl)
        ⟨ho, rfl, ⟨_, ho, rfl⟩, call_meets F.slot_tuple_mul ⟨_, ho, rfl⟩ F.entry_tuple_mul (F.args_tuple_mul_2 _ _) (mul_one_t l its.toArray n dd sl t) ⟨ho, ⟨.ref l, H, I, rfl, q⟩⟩⟩)
  · have c0 : (decide (k < -(2 ^ 63)) || decide (k ≥ 2 ^ 63)) = false := by
      rw [decide_eq_false (by omega), decide_eq_false (by omega)] <;> rfl
    have c1 : (its.toArray.isEmpty || k == 1) = false := by
      rw [hi, Bool.false_or]
      exact beq_eq_false_iff_ne.mpr (by omega)
    have c2 : (decide (k ≤ 0) || its.toArray.isEmpty) = true := by
      rw [decide_eq_true h0]
      rfl
    refine wpAny_binaryOp_repeat_ref (T := "tuple") (U := "int") (by decide) ⟨_, ho, rfl⟩ (fun s' => typeIs_int s' k t) noFill_tuple_mul F.fills_int_mul F.slot_int_rmul repeat_tuple F.slot_int_index.lookup
      (call_meets F.slot_int_rmul (typeIs_int s k t) F.entry_int_rmul (F.args_int_rmul_2 _ _) (int_rmul_tuple k t l its.toArray n dd sl)
        ⟨ho, rfl, ⟨_, ho, rfl⟩, call_meets F.slot_tuple_mul ⟨_, ho, rfl⟩ F.entry_tuple_mul (F.args_tuple_mul_2 _ _) (mul_none_t l its.toArray n dd sl k t c0 c1 c2) ⟨ho, ?_⟩⟩)
    exact ⟨.ref s.heap.objs.size, _, I.laid (t' := s.toks) (o := .tup []) (fun b ob q => Heap.get?_push_of_some _ q) (Nat.le_refl _) ⟨Nat.zero_le _, [], .nil, IsTup.new _ _⟩, rfl, q _ (I.hok.fresh (Nat.le_refl _))⟩
end Ev

-- EvS
/-! EvS: sorted(list), sorted(dict). -/
namespace Ev
open PySem L2 PySem.Spec PySem.Calls PyProof.Rows
section
variable {prog : Program} {w : World} {A : Around} {E : Value → Shared → Prop} {s : Shared}
theorem oneLt_tups {xs ys : List PyData} {a b : Value} {as bs : List Addr} {Q : Bool → Shared → Prop} (ra : PySem.Reads s.heap a (.tuple xs) as) (rb : PySem.Reads s.heap b (.tuple ys) bs) (h : PySem.W.alike (.tuple xs) (.tuple ys) = true)
    (hu : A.units + min (PyData.tuple xs).depth (PyData.tuple ys).depth < cLine) (hq : Q (PySem.W.dataLt (.tuple xs) (.tuple ys)) s) : wpAny (model prog w) A (PyProof.Rows.oneLt' true a b) Q E s := by
  have hal : PySem.W.alikeAll xs ys = true := by simpa [PySem.W.alike] using h
  cases ra with
  | @tuple l o vs n _ as₁ h1 h2 h3 h4 =>
    cases rb with
    | @tuple l' o' vs' n' _ bs₁ k1 k2 k3 k4 =>
      have n1 : vs.size = xs.length := by simpa using SeqAt.ReadsAll.length _ _ _ h4
      have n2 : vs'.size = ys.length := by simpa using SeqAt.ReadsAll.length _ _ _ k4
      rw [PySem.W.dataLt_tuple, ← PySem.W.firstLt_toks xs ys hal, ← n1, ← n2] at hq
      rw [PyProof.Rows.oneLt'_eq]
      simp only [if_true]
      refine wpAny_bind (wpAny_cRoomFor (SeqAt.room_here hu) ?_)
      obtain ⟨cls, dd, data, sl⟩ := o
      obtain ⟨cls2, dd2, data2, sl2⟩ := o'
      simp only at h2 h3 k2 k3
      subst h2 h3 k2 k3
      refine wpAny_bind (wpAny_callSpecialIfBound?_slot (T := "tuple") ⟨_, h1, rfl⟩ F.slot_tuple_lt
        (call_meets F.slot_tuple_lt ⟨_, h1, rfl⟩ F.entry_tuple_lt (F.args_tuple_lt_2 _ _) (SeqAt.tuple_ltAt l l' vs vs' n n' dd dd2 sl sl2 (SeqAt.pairEq xs ys) (fun j => PySem.W.dataLt (xs.getD j .none) (ys.getD j .none))) ⟨h1, k1, fun j j1 j2 => ?_, fun j j1 j2 hj => ?_, ?_⟩))
      · have := PySem.W.eqAt_alikeAll xs ys A.in1 s vs.toList vs'.toList _ _ h4 k4 hal (SeqAt.room_in hu) j (by simpa using j1) (by simpa using j2)
        simpa using this
      · have := PySem.W.rcLt_alikeAll xs ys A.in1 s vs.toList vs'.toList _ _ h4 k4 hal (SeqAt.room_in hu) j (by simpa using j1) (by simpa using j2) hj
        simpa using this
      · exact wpAny_truthy_bool hq
theorem firstsE {M : Model} {vs : List Value} {ds : List PyData} (e : PySem.W.EachIs (fun v d => ∃ as, PySem.Reads s.heap v d as) vs ds) : (∀ d ∈ ds, ∃ xs, d = .tuple xs) → ∀ {Q : List (Option Value) → Shared → Prop},
    (∀ os : List (Option Value), os.length = vs.length → (∀ (i : Nat), ds[i]? = some (.tuple []) → os[i]? = some none) → Q os s) → wpAny M A (vs.mapM PyProof.Rows.firstOfTuple') Q E s := by
  induction e with
  | nil => intro _ Q h; rw [List.mapM_nil]; exact wpAny_pure (h [] rfl (by simp))
  | @cons v d vs ds h1 t ih =>
    intro ht Q h
    obtain ⟨xs, rfl⟩ := ht d (List.mem_cons_self ..)
    obtain ⟨as, r⟩ := h1
    cases r with
    | @tuple a o vs' n _ as₁ ho hc hd hr =>
      rw [List.mapM_cons]
      refine wpAny_bind ?_
      rw [PySem.W.kas_first_eq]
      refine wpAny_bind (PySem.W.Looks.here (show PySem.W.Looks M s.heap (typeOf (.ref a)) o.cls from (PySem.W.Looks.ld ho).andThen .now) ?_)
      rw [hc, if_neg (by first | decide | simp)]
      refine wpAny_bind (listItems_at ho hd (wpAny_pure ?_))
      refine wpAny_bind (ih (fun d hd => ht d (List.mem_cons_of_mem _ hd)) fun os e1 e2 => wpAny_pure (h _ (by rw [List.length_cons, List.length_cons, e1]) fun i hi => ?_))
      cases i with
      | zero =>
        have hi' : PyData.tuple xs = .tuple [] := Option.some.inj hi
        cases hi'
        have n1 : vs'.size = 0 := by simpa using SeqAt.ReadsAll.length _ _ _ hr
        have hn : vs'[0]? = none := by rw [Array.getElem?_eq_none_iff]; omega
        rw [hn]
        rfl
      | succ i => exact e2 i hi
theorem sorts_empty {vs : List Value} {ds : List PyData} (e : PySem.W.EachIs (fun v d => ∃ as, PySem.Reads s.heap v d as) vs ds) (hal : PySem.W.AllAlike ds) (h0 : ds.head? = some (.tuple [])) (ht : ∀ d ∈ ds, ∃ xs, d = .tuple xs)
    (hu : ∀ d, d ∈ ds → A.units + d.depth < cLine) : PySem.W.SortsAt prog w A s (PySem.W.dataKind s.heap ds) vs := by
  refine ⟨fun v hv => ?_, ⟨PyProof.Rows.oneType', ?_, fun h2 E Q hq => ?_⟩⟩
  · obtain ⟨d, hd, as, r⟩ := e.left v hv
    exact ⟨_, PySem.W.dataKind_some hal hd r⟩
  · intro E x y a b Q ha hb hq
    obtain ⟨d, as, hd, ra, rfl⟩ := PySem.W.dataKind_inv ha
    obtain ⟨d', as', hd', rb, rfl⟩ := PySem.W.dataKind_inv hb
    rw [PyProof.Rows.keyLt'_oneType]
    have hdd := hal d hd d' hd'
    have hr : A.units + min d.depth d'.depth < cLine := Nat.lt_of_le_of_lt (Nat.add_le_add_left (Nat.min_le_left _ _) _) (hu d hd)
    obtain ⟨xs, rfl⟩ := ht d hd
    obtain ⟨ys, rfl⟩ := ht d' hd'
    exact oneLt_tups ra rb hdd hr hq
  · have hl := e.length
    rw [PyProof.Rows.keyKind'_eq, List.mapM_toArray, map_eq_pure_bind]
    refine wpAny_bind (wpAny_bind (firstsE e ht fun os e1 e2 => wpAny_pure ?_))
    have z : os[0]? = some none := e2 0 (by rw [← List.head?_eq_getElem?]; exact h0)
    have z' : os.toArray[0]? = some none := by simpa using z
    have na : ¬ ((os.toArray.all fun x => x.isSome) = true) := by
      intro q
      rw [List.all_toArray, List.all_eq_true] at q
      exact absurd (q none (List.mem_of_getElem? z)) (by simp)
    rw [if_neg na, if_neg (by rw [z']; simp)]
    rw [PyProof.Rows.oneTypeOnly'_eq, List.mapM_toArray, map_eq_pure_bind]
    refine wpAny_bind (wpAny_bind (wpAny_bind (PySem.W.kas_mapM (r := Value.type "tuple") _ (fun v hv Q' hq => ?_) (wpAny_pure ?_))))
    · obtain ⟨d, hd, as, r⟩ := e.left v hv
      obtain ⟨xs, rfl⟩ := ht d hd
      exact (PySem.W.looks_reads r).here hq
    · have hall : ((List.map (fun _ => Value.type "tuple") vs).toArray.all fun x => x == Value.type "tuple") = true := by
        simp only [List.all_toArray, List.all_map, List.all_eq_true]
        intro _ _
        exact beq_self_eq_true _
      have h0' : (List.map (fun _ => Value.type "tuple") vs).toArray[0]? = some (Value.type "tuple") := by
        cases vs with
        | nil => simp at h2
        | cons v vs => simp
      rw [h0']
      simp only [hall, if_true]
      exact wpAny_pure (wpAny_pure hq)
end
theorem dN_of {X : Cx} {pins : List (Addr × Obj)} {σ : L2.St} {H : Hp} {s : Shared} {d : Addr} {o : Obj} {es : List (NestedKey × Addr × V)} (I : Inv X pins σ H s) (h : H d = some (dN X.w d o es)) :
    (d == sysModules) = false ∧ s.heap.get? d = some o ∧ o.ExactDict ∧ ∃ (ds : Array DictEntry) (ep : Nat), o.data = .dict ds ep ∧ ds.size = es.length ∧
      ∀ (i : Nat) (p : NestedKey × Addr × V), es[i]? = some p → ∃ (hi : i < ds.size), ds[i].key = .ref p.2.1 ∧ RelV p.2.2 ds[i].val := by
  obtain ⟨⟨z, hm, nd, xs, p, des, ep, ho, hx, hdat, hl⟩, _, _⟩ := I.hok d _ h
  have l1 : des.size = xs.length := by rw [← Array.length_toList, hl, List.length_map]
  have l2 : es.length = xs.length := Paired.length p
  refine ⟨hm, ho, hx, des, ep, hdat, by omega, fun i q hq => ?_⟩
  obtain ⟨b, hb, e1, e2, e3⟩ := paired_get p hq
  have hi : i < des.size := by rw [l1]; exact (List.getElem?_eq_some_iff.mp hb).1
  have e : des.toList[i]? = _ := congrArg (·[i]?) hl
  rw [List.getElem?_map, hb, Array.getElem?_toList, Array.getElem?_eq_getElem hi, Option.map_some] at e
  have e' := Option.some.inj e
  exact ⟨hi, by rw [e', e2], by rw [e']; exact e3⟩

theorem srtL_length (ds : List D) : (srtL ds).length = ds.length := List.length_mergeSort ds
section
variable {K : Fw} {S : Hp}
theorem eachR : ∀ {xs : List V} {vs : List Value} {ds : List D}, Vals xs vs → Rps K S xs ds → PySem.W.EachIs (fun v d => ∃ x, RelV x v ∧ Rp K S x d) vs ds
  | _, _, _, .nil, .nil => .nil
  | _, _, _, .cons h r, .cons g q => .cons ⟨_, h, g⟩ (eachR r q)
theorem eachR_back {vs : List Value} {ds : List D} (e : PySem.W.EachIs (fun v d => ∃ x, RelV x v ∧ Rp K S x d) vs ds) : ∃ xs, Vals xs vs ∧ Rps K S xs ds := by
  induction e with
  | nil => exact ⟨[], .nil, .nil⟩
  | cons h _ ih =>
    obtain ⟨x, h1, h2⟩ := h
    obtain ⟨xs, r1, r2⟩ := ih
    exact ⟨x :: xs, .cons h1 r1, .cons h2 r2⟩
end
section
variable {X : Cx} {pins : List (Addr × Obj)} {σ : L2.St} {H S : Hp} {s : Shared} {Q : VK}
theorem eachReads (I : Inv X pins σ H s) (es : Ext S H) : ∀ {xs : List V} {vs : List Value} {ds : List D}, Vals xs vs → Rps (kx X) S xs ds → (∀ d ∈ ds, d.canLay0 = true) → PySem.W.EachIs (fun v d => ∃ as, PySem.Reads s.heap v d as) vs ds
  | _, _, _, .nil, .nil, _ => .nil
  | _, _, _, .cons h r, .cons (d := d) g q, c => .cons (Dp.reads I d _ _ ((g.ext es).dp (c _ (List.mem_cons_self ..))) h) (eachReads I es r q fun d hd => c d (List.mem_cons_of_mem _ hd))
/-- they can be sorted in a later heap -/
theorem sortsAt {A : Around} {s' : Shared} {vs : List Value} {ds : List D} (hk : ∀ b o, s.heap.get? b = some o → s'.heap.get? b = some o) (un : A.units + 62 < cLine) (h : SortOk ds) (e : PySem.W.EachIs (fun v d => ∃ as, PySem.Reads s.heap v d as) vs ds) :
    PySem.W.SortsAt X.prog X.w A s' (PySem.W.dataKind s'.heap ds) vs := by
  obtain ⟨h1, h2, h3, h4⟩ := h
  have e' := e.mono fun v d ⟨as, r⟩ => (⟨as, PyProof.Rows.Reads.keeps hk r⟩ : ∃ as, PySem.Reads s'.heap v d as)
  have hu : ∀ d ∈ ds, A.units + d.depth < cLine := fun d hd => by have := (h3 d hd).2; omega
  rcases h4 with h4 | ⟨h4, h5⟩
  · exact PySem.W.SortsAt.data e' h2 h4 hu
  · exact sorts_empty e' h2 h4 h5 hu
theorem srt_end (I : Inv X pins σ H s) {vs : List Value} {ds : List D} {h' h2 : Heap} {t' : Nat} {p : Addr} {c : Nat} (hk : ∀ b o, s.heap.get? b = some o → h'.get? b = some o) (hp : s.heap.objs.size ≤ p) (hal : PySem.W.AllAlike ds) (hL : ds.length ≤ sizeLine)
    (e : PySem.W.EachIs (fun v d => ∃ x, RelV x v ∧ Rp (kx X) S x d) vs ds) (er : PySem.W.EachIs (fun v d => ∃ as, PySem.Reads h2 v d as) vs ds)
    (ho : h'.get? p = some (seqObj "list" (PySem.W.sortVals (PySem.W.dataKind h2 ds) false vs vs).toArray c)) (k : ∀ (l : Addr) (ys : List V), Rps (kx X) S ys (srtL ds) → H l = none → Q (.ref l) (upd H l (.lst ys))) :
    EP X pins σ Q (.ref p) { s with heap := h', toks := t' } := by
  have e1 := PySem.W.sortVals_data (h' := h2) (enc := id) false e er (by rw [List.map_id]; exact hal)
  rw [List.map_id] at e1
  obtain ⟨ys, r1, r2⟩ := eachR_back e1
  have hl : ys.length = ds.length := by rw [r2.length]; exact srtL_length ds
  exact ⟨V.ref p, upd H p (.lst ys), I.laid (t' := t') hk hp (show ObjOk X.prog X.w _ _ _ (.lst ys) from ⟨by rw [hl]; exact hL, _, c, r1, ho⟩), rfl, k p ys r2 (I.hok.fresh hp)⟩
theorem srt_list (un : X.A.units + 66 < cLine) (I : Inv X pins σ H s) (es : Ext S H) {l : Addr} {xs : List V} {ds : List D} (hl : SqL X.K H l xs) (r : Rps (kx X) S xs ds) (h : SortOk ds)
    (k : ∀ (p : Addr) (ys : List V), Rps (kx X) S ys (srtL ds) → H p = none → Q (.ref p) (upd H p (.lst ys))) : wpAny (model X.prog X.w) X.A (call (.builtin "sorted") [.ref l]) (EP X pins σ Q) X.xe s := by
  obtain ⟨vs, rv, p, hz⟩ := I.list hl
  have e := eachR rv r
  have er := eachReads I es rv r fun d hd => (h.2.2.1 d hd).1
  have hlen : vs.length ≤ sizeLine := by rw [e.length]; exact h.1
  have hk : ∀ b o, s.heap.get? b = some o → (PySem.W.sortingHeap (PySem.W.copyHeap s.heap vs) (s.heap.objs.size + 1) vs).get? b = some o := fun b o => PySem.W.sorting_copy_old
  have S1 := sortsAt (X := X) (A := X.A.in1.in1) (s' := { s with heap := PySem.W.sortingHeap (PySem.W.copyHeap s.heap vs) (s.heap.objs.size + 1) vs }) hk (by show X.A.units + 2 + 62 < _; omega) h er
  refine PySem.W.sorted_vals p.isList S1 hlen ?_
  obtain ⟨c, hc⟩ := sortedAll_at s.heap vs (PySem.W.sortVals (PySem.W.dataKind (PySem.W.sortingHeap (PySem.W.copyHeap s.heap vs) (s.heap.objs.size + 1) vs) ds) false vs vs).toArray
  exact srt_end (t' := s.toks) I (fun _ _ => sortedAll_old) (Nat.le_succ _) h.2.1 h.1 e (er.mono fun v d ⟨as, r⟩ => ⟨as, PyProof.Rows.Reads.keeps hk r⟩) hc k
theorem kdl_raw {prog : Program} {w : World} {d : Addr} {es : Array DictEntry} {ep : Nat} (lo : (d == sysModules) = false) : PySem.W.KdlSrc prog w "dict" d d es.size (fun i v => ∃ hi : i < es.size, v = es[i].key) (fun h => ∃ o, h.get? d = some o ∧ o.ExactDict ∧ o.data = .dict es ep) where
  type := fun _ ⟨o, ho, hc, _⟩ => ⟨o, ho, hc.1⟩
  there := fun _ ⟨o, ho, _⟩ => ⟨Heap.lt_size ho, Heap.lt_size ho⟩
  keep := fun _ _ ⟨o, ho, hc, hd⟩ hk => ⟨o, hk d (.inl rfl) o ho, hc, hd⟩
  notList := by decide
  notTuple := by decide
  hint := fun _ _ _ _ ⟨o, ho, hc, _⟩ hq => PySem.W.kdl_hint_dict ⟨o, ho, hc.1⟩ hq
  iter := fun A s hh ⟨o, ho, hc, hd⟩ => ⟨_, _, (fun _ _ hq => iter_keys lo ho hc hd hq), Walks.rawKeys hh _ d (Nat.ne_of_lt (Heap.lt_size ho)) es ep,
    ⟨⟨_, Heap.get?_push_size _ rfl, rfl, rfl⟩, ⟨o, Heap.get?_push_of_some _ ho, hc, hd⟩⟩⟩
theorem ents_keys {K : Fw} : ∀ {es : List (NestedKey × Addr × V)} {kvs : List (D × D)}, Ents K S es kvs → Rps K S (es.map fun p => .ref p.2.1) (kvs.map (·.1))
  | _, _, .nil => .nil
  | _, _, .cons _ k _ r => .cons (by assumption) (ents_keys r)
theorem srt_dict (un : X.A.units + 66 < cLine) (hcalm : X.calm = true) (I : Inv X pins σ H s) (es : Ext S H) {d : Addr} {o : Obj} {en : List (NestedKey × Addr × V)} {kvs : List (D × D)} (hd : H d = some (dN X.w d o en)) (r : Ents (kx X) S en kvs) (h : SortOk (kvs.map (·.1)))
    (k : ∀ (p : Addr) (ys : List V), Rps (kx X) S ys (srtL (kvs.map (·.1))) → H p = none → Q (.ref p) (upd H p (.lst ys))) : wpAny (model X.prog X.w) X.A (call (.builtin "sorted") [.ref d]) (EP X pins σ Q) X.xe s := by
  obtain ⟨hs, hgd, hx, des, ep, hdt, hsz, ent⟩ := dN_of I hd
  have hne : en.length = (kvs.map (·.1)).length := by rw [List.length_map]; exact r.length
  have h16 : des.size ≤ sizeLine := by rw [hsz, hne]; exact h.1
  refine Calls.call_function_entry kind_sorted plain_sorted entry_sorted (args_sorted1 _) ?_
  unfold Builtin.«sorted»
  refine wpAny_bind (m := checkCount "sorted" 1 1 _) (wpAny_pure ?_)
  refine wpAny_bind (PySem.W.kdu_collect (A := X.A.in1) (kdl_raw (prog := X.prog) (w := X.w) (es := des) (ep := ep) hs) (I.ok.hd hcalm) ⟨o, hgd, hx, hdt⟩ h16 fun h' tk acc hk hacc => ?_)
  have hal : acc.toList.length = en.length := by rw [Array.length_toList, hacc.1, hsz]
  have rv : ∀ (en : List (NestedKey × Addr × V)) (vs : List Value), vs.length = en.length → (∀ (i : Nat) v p, vs[i]? = some v → en[i]? = some p → v = .ref p.2.1) → Vals (en.map fun p => V.ref p.2.1) vs := by
    intro en
    induction en with
    | nil =>
      intro vs hl _
      cases vs with
      | nil => exact .nil
      | cons _ _ => simp at hl
    | cons p en ih =>
      intro vs hl hv
      cases vs with
      | nil => simp at hl
      | cons v vs =>
        refine .cons (hv 0 v p rfl rfl) (ih vs (by simpa using hl) fun i v p e1 e2 => hv (i + 1) v p (by simpa using e1) (by simpa using e2))
  have rvs : Vals (en.map fun p => V.ref p.2.1) acc.toList := rv en acc.toList hal fun i v p e1 e2 => by
    obtain ⟨hi, e3⟩ := hacc.2 i v (by rw [← Array.getElem?_toList]; exact e1)
    obtain ⟨hi', e4, _⟩ := ent i p e2
    rw [e3, e4]
  have I1 : Inv X pins σ H { s with heap := h', toks := tk } := I.kept hk
  have e := eachR rvs (ents_keys r)
  have er := eachReads I1 es rvs (ents_keys r) fun d hd => (h.2.2.1 d hd).1
  have hlen : acc.toList.length ≤ sizeLine := by rw [e.length]; exact h.1
  refine wpAny_bind (wpAny_newList ?_ hlen)
  have hoL : (h'.push (seqObj "list" acc.toList.toArray 0)).get? h'.objs.size = some (seqObj "list" acc.toList.toArray 0) := Heap.get?_push_size _ rfl
  show wpAny _ _ _ _ _ { s with heap := h'.push (seqObj "list" acc.toList.toArray 0), toks := tk }
  have hk2 : ∀ b o, h'.get? b = some o → (PySem.W.sortingHeap (h'.push (seqObj "list" acc.toList.toArray 0)) h'.objs.size acc.toList).get? b = some o := fun b o e => PySem.W.sortingHeap_old (Nat.ne_of_lt (Heap.lt_size e)) (Heap.get?_push_of_some _ e)
  have S1 := sortsAt (X := X) (s := { s with heap := h', toks := tk }) (A := X.A.in1.in1) (s' := { s with heap := PySem.W.sortingHeap (h'.push (seqObj "list" acc.toList.toArray 0)) h'.objs.size acc.toList, toks := tk }) hk2 (by show X.A.units + 2 + 62 < _; omega) h er
  refine wpAny_bind (wpAny_holding (wpAny_call_entry slot_list_sort ⟨_, hoL, rfl⟩ entry_list_sort
    (PySem.W.list_sort_vals (s := { s with heap := h'.push (seqObj "list" acc.toList.toArray 0), toks := tk }) hoL S1 hlen ⟨_, rfl, ?_⟩) (args_list_sort _)))
  obtain ⟨c, hc⟩ := sortedHeap_at (vs := acc.toList) (out := (PySem.W.sortVals (PySem.W.dataKind (PySem.W.sortingHeap (h'.push (seqObj "list" acc.toList.toArray 0)) h'.objs.size acc.toList) (kvs.map (·.1))) false acc.toList acc.toList).toArray) hoL
  refine wpAny_pure ⟨_, rfl, srt_end (s := { s with heap := h', toks := tk }) (t' := tk) I1 (fun b u e => ?_) (Nat.le_refl _) h.2.1 h.1 e (er.mono fun v d ⟨as, r⟩ => ⟨as, PyProof.Rows.Reads.keeps hk2 r⟩) hc k⟩
  have hb : b < h'.objs.size := Heap.lt_size e
  rw [sortedHeap_old (Nat.ne_of_lt hb) (by rw [size_push']; exact Nat.lt_succ_of_lt hb)]
  exact Heap.get?_push_of_some _ e
/-- a tuple's items as a list -/
theorem collect_tup {prog : Program} {w : World} {A : Around} {E : Value → Shared → Prop} {s : Shared} {p : Addr} {us : List Value} {Q : List Value → Shared → Prop} (hp : s.heap.IsTuple p us.toArray) (hn : us.length ≤ sizeLine)
    (k : Q us { s with heap := (s.heap.push (seqObj "list" #[] 0)).update s.heap.objs.size (Obj.mapSeq (· ++ us.toArray)) }) : wpAny (model prog w) A (PySem.collect (.ref p)) Q E s := by
  obtain ⟨u, hu, hcl, m, hda⟩ := id hp
  unfold PySem.collect
  refine wpAny_bind (wpAny_runValue (codeAny_builtin PyProof.Rows.entry_proto_collect' ?_))
  change wpAny _ _ (do again (.builtin "list.__iadd__" ⟨[← newList [], .ref p], []⟩)) _ _ s
  refine wpAny_bind (wpAny_newList (wpAny_pure ⟨Code.quiet_builtin _ (by decide +kernel), codeAny_builtin PyProof.Rows.entry_list_iadd' ?_⟩))
  change wpAny _ _ (Builtin.List.listExtendWith (.ref s.heap.objs.size) (.ref p) (.ref s.heap.objs.size)) _ _ { s with heap := s.heap.push (seqObj "list" #[] 0) }
  rw [Builtin.List.listExtendWith]
  have hu2 : (s.heap.push (seqObj "list" #[] 0)).get? p = some u := Heap.get?_push_of_some _ hu
  refine wpAny_bind (wpAny_typeOf (T := "tuple") ⟨u, hu2, hcl⟩ ?_)
  rw [if_pos (by rw [show (Value.type "tuple" == Value.type "tuple") = true from rfl, Bool.or_true])]
  refine wpAny_bind (PyProof.Rows.listItems_at hu2 hda ?_)
  refine wpAny_bind (PyProof.Rows.listItems_at (xs := #[]) (n := 0) (Heap.get?_push_size _ rfl) rfl ?_)
  rw [if_neg (by simp)]
  refine wpAny_bind (PyProof.Rows.listUpdate_at (xs := #[]) (n := 0) (Heap.get?_push_size _ rfl) rfl ?_ (Nat.zero_le _) (by change (#[] ++ us.toArray).size ≤ sizeLine + 1; simp only [Array.size_append, List.size_toArray, List.length_nil]; omega))
  refine wpAny_pure ?_
  change wpAny (model prog w) A (do
      let o ← load s.heap.objs.size
      match o.data with
      | .seq xs _ => pure xs.toList
      | _ => unsupported "internal:collect") Q E { s with heap := (s.heap.push (seqObj "list" #[] 0)).update s.heap.objs.size (Obj.mapSeq (· ++ us.toArray)) }
  refine wpAny_bind (wpAny_load (PyProof.Rows.get?_update_seq (Heap.get?_push_size _ rfl) _) ?_)
  change wpAny _ _ (pure ((#[] : Array Value) ++ us.toArray).toList) Q E _
  rw [show ((#[] : Array Value) ++ us.toArray).toList = us by simp]
  exact wpAny_pure k
theorem srt_tup (un : X.A.units + 66 < cLine) (I : Inv X pins σ H s) (es : Ext S H) {l : Addr} {xs : List V} {ds : List D} (hl : SqT X.K H l xs) (r : Rps (kx X) S xs ds) (h : SortOk ds)
    (k : ∀ (p : Addr) (ys : List V), Rps (kx X) S ys (srtL ds) → H p = none → Q (.ref p) (upd H p (.lst ys))) : wpAny (model X.prog X.w) X.A (call (.builtin "sorted") [.ref l]) (EP X pins σ Q) X.xe s := by
  obtain ⟨vs, rv, p, hz⟩ := I.tuple hl
  have e := eachR rv r
  have er := eachReads I es rv r fun d hd => (h.2.2.1 d hd).1
  have hlen : vs.length ≤ sizeLine := by rw [e.length]; exact h.1
  have hk : ∀ b o, s.heap.get? b = some o → (PySem.W.sortingHeap (PySem.W.copyHeap s.heap vs) (s.heap.objs.size + 1) vs).get? b = some o := fun b o => PySem.W.sorting_copy_old
  have S1 := sortsAt (X := X) (A := X.A.in1.in1) (s' := { s with heap := PySem.W.sortingHeap (PySem.W.copyHeap s.heap vs) (s.heap.objs.size + 1) vs }) hk (by show X.A.units + 2 + 62 < _; omega) h er
  refine Calls.call_function_entry kind_sorted plain_sorted entry_sorted (args_sorted1 _) ?_
  unfold Builtin.«sorted»
  refine wpAny_bind (m := checkCount "sorted" 1 1 _) (wpAny_pure ?_)
  refine wpAny_bind (collect_tup p hlen ?_)
  refine wpAny_bind (wpAny_newList ?_ hlen)
  have hsz : ((s.heap.push (seqObj "list" #[] 0)).update s.heap.objs.size (Obj.mapSeq (· ++ vs.toArray))).objs.size = s.heap.objs.size + 1 := by rw [Heap.size_update, size_push']
  change wpAny _ _ _ _ _ { s with heap := PySem.W.copyHeap s.heap vs }
  rw [hsz]
  refine wpAny_bind (wpAny_holding (wpAny_call_entry slot_list_sort ⟨_, PySem.W.copyHeap_at s.heap vs, rfl⟩ entry_list_sort
    (PySem.W.list_sort_vals (s := { s with heap := PySem.W.copyHeap s.heap vs }) (PySem.W.copyHeap_at s.heap vs) S1 hlen ⟨_, rfl, wpAny_pure ⟨_, rfl, ?_⟩⟩) (args_list_sort _)))
  obtain ⟨c, hc⟩ := sortedAll_at s.heap vs (PySem.W.sortVals (PySem.W.dataKind (PySem.W.sortingHeap (PySem.W.copyHeap s.heap vs) (s.heap.objs.size + 1) vs) ds) false vs vs).toArray
  exact srt_end (t' := s.toks) I (fun _ _ => sortedAll_old) (Nat.le_succ _) h.2.1 h.1 e (er.mono fun v d ⟨as, r⟩ => ⟨as, PyProof.Rows.Reads.keeps hk r⟩) hc k
end
end Ev

-- Ev4
/-! Ev4: the operations on data are the model's. -/
namespace Ev
open PySem L2

/-- what an operation hands back: a new object, or data seen by a wider view -/
def ResR (K : Fw) (H H' S : Hp) (own : Bool) (d : D) (w : V) : Prop :=
  match own with
  | true => ∃ a, w = .ref a ∧ H a = none ∧ OwnAt K H' S a d
  | false => ∃ S', Ext S S' ∧ Ext S' H' ∧ (∀ a o, S' a = some o → (∃ o, S a = some o) ∨ H a = none) ∧ Rp K S' w d
def Kont (K : Fw) (H S : Hp) (t : Bool × D) (Q : VK) : Prop := ∀ w H', Ext H H' → ResR K H H' S t.1 t.2 w → Q w H'

section
variable {K : Fw} {F : Frm} {H H' S S' : Hp} {σ : St} {ρ ρ' : Rho} {t u : Tm} {ts : List Tm} {v w : V} {vs : List V} {as bs cs : List Addr} {d : D} {Q : VK} {own : Bool}

/-- a wider view: what is new in it was not there -/
theorem Cf.view (c : Cf K F S ρ ts σ vs H as bs) (e : Ext H H') (e1 : Ext S S') (e2 : Ext S' H') (hn : ∀ a o, S' a = some o → (∃ o, S a = some o) ∨ H a = none) : Cf K F S' ρ ts σ vs H' as bs := by
  have g := c.grow e
  refine ⟨e2, c.s0.trans e1, fun a o h => ?_, g.keep, g.iod, g.slots.mono e1 fun _ _ _ h => h, g.tms.mono e1 fun _ _ _ h => h, c.nd, fun a ha => ?_⟩
  · rcases hn a o h with ⟨o', q⟩ | q
    · exact c.new a o' q
    · exact .inr (c.newHin q)
  · cases q : S' a with
    | none => rfl
    | some o =>
      rcases hn a o q with ⟨o', z⟩ | z
      · rw [c.out a ha] at z; cases z
      · exact absurd ha (c.fresh z)
theorem Cf.own' {p : Addr} (c : Cf K F S ρ ts σ vs H as bs) (e : Ext H H') (hp : H p = none) (h : OwnAt K H' S p d) : Cf K F S ρ (.ow d :: ts) σ (.ref p :: vs) H' as (p :: bs) := by
  have g := c.grow e
  refine ⟨g.sub, g.s0, g.new, g.keep, g.iod, g.slots, (.cons (as := [p]) (.ow h (c.newHin hp)) g.tms), ?_, fun a ha => ?_⟩
  · exact (List.perm_middle (a := p) (l₁ := as) (l₂ := bs)).nodup_iff.mpr (List.nodup_cons.mpr ⟨c.fresh hp, c.nd⟩)
  · by_cases q : a = p
    · subst q; exact none_of_ext c.sub hp
    · exact c.out a (by
        simp only [List.mem_append, List.mem_cons] at ha ⊢
        rcases ha with z | z | z
        · exact .inl z
        · exact absurd z q
        · exact .inr z)
theorem Cf.res (c : Cf K F S ρ ts σ vs H as bs) (e : Ext H H') (r : ResR K H H' S own d w) : Conf K F ρ (mkT own d :: ts) σ (w :: vs) H' := by
  cases own with
  | true =>
    obtain ⟨a, rfl, hp, h⟩ := r
    exact ⟨S, as, _, c.own' e hp h⟩
  | false =>
    obtain ⟨S', e1, e2, hn, h⟩ := r
    exact ⟨S', as, bs, (c.view e e1 e2 hn).push h⟩
theorem Kont.val (k : Kont K H S (false, d) Q) (e : Ext S H) (r : Rp K S w d) : Q w H := k w H (Same.refl _) ⟨S, Same.refl _, e, fun a o h => .inl ⟨o, h⟩, r⟩
theorem Kont.tup {xs : List V} {ds : List D} (k : Kont K H S (false, .tuple ds) Q) (e : Ext S H) (r : Rps K S xs ds) {p : Addr} (hp : H p = none) : Q (.ref p) (upd H p (.tup xs)) := by
  have e1 : Ext S (upd S p (.tup xs)) := ext_upd (none_of_ext e hp)
  refine k _ _ (ext_upd hp) ⟨upd S p (.tup xs), e1, fun a o h => ?_, fun a o h => ?_, .tup (.inl (.inl upd_same)) (r.ext e1)⟩
  · by_cases q : a = p
    · subst q; rw [upd_same] at h; rw [upd_same]; exact h
    · rw [upd_ne q] at h; rw [upd_ne q]; exact e a o h
  · by_cases q : a = p
    · subst q; exact .inr hp
    · rw [upd_ne q] at h; exact .inl ⟨o, h⟩
theorem Kont.lst {xs : List V} {ds : List D} (k : Kont K H S (true, .list ds) Q) (r : Rps K S xs ds) {p : Addr} (hp : H p = none) : Q (.ref p) (upd H p (.lst xs)) :=
  k _ _ (ext_upd hp) ⟨p, rfl, hp, .lst upd_same r⟩
end

theorem Rp.int_of {K : Fw} {S : Hp} {v : V} {i : Int} (h : Rp K S v (.int i)) : v = .int i := by cases h; rfl
theorem Rp.str_of {K : Fw} {S : Hp} {v : V} {i : Str} (h : Rp K S v (.str i)) : v = .str i := by cases h; rfl
theorem Rp.bl_of {K : Fw} {S : Hp} {v : V} {i : Bool} (h : Rp K S v (.bool i)) : v = .bl i := by cases h; rfl
theorem Rp.non_of {K : Fw} {S : Hp} {v : V} (h : Rp K S v .none) : v = .non := by cases h; rfl
theorem Rp.tup_of {K : Fw} {S : Hp} {v : V} {ds : List D} (h : Rp K S v (.tuple ds)) : ∃ a xs, v = .ref a ∧ SqT K S a xs ∧ Rps K S xs ds := by
  cases h with
  | tup h r => exact ⟨_, _, rfl, h, r⟩
theorem Rp.lst_of {K : Fw} {S : Hp} {v : V} {ds : List D} (h : Rp K S v (.list ds)) : ∃ a xs, v = .ref a ∧ SqL K S a xs ∧ Rps K S xs ds := by
  cases h with
  | lst h r => exact ⟨_, _, rfl, h, r⟩
theorem Rp.dct_of' {K : Fw} {S : Hp} {v : V} {kvs : List (D × D)} (h : Rp K S v (.dict kvs)) (ho : opq kvs = false) : ∃ a o es, v = .ref a ∧ S a = some (dN K.w a o es) ∧ Ents K S es kvs := by
  cases h with
  | dct h r => exact ⟨_, _, _, rfl, h, r⟩
  | odc h r => rw [ho] at r; cases r
theorem Rps.nil_of {K : Fw} {S : Hp} {xs : List V} {ds : List D} (r : Rps K S xs ds) : xs = [] ↔ ds = [] := by
  cases r with
  | nil => simp
  | cons _ _ => simp
theorem line_eq : (16777216 : Nat) = sizeLine := sizeLine_eq.symm

/-! ### list + list, whatever they are -/
section
variable {X : Cx}
def rCatL (K : Fw) : R2 := fun x y H Q => ∃ l b xs zs, x = .ref l ∧ y = .ref b ∧ SqL K H l xs ∧ SqL K H b zs ∧ xs.length + zs.length ≤ sizeLine ∧ ∀ p, H p = none → Q (.ref p) (upd H p (.lst (xs ++ zs)))
theorem op_catL : OpR X (binaryOp .Add) (rCatL (kx X)) := by
  intro pins s σ H x y v u Q I rx ry h
  obtain ⟨l, b, xs, zs, rfl, rfl, hH, hB, hz, q⟩ := h
  cases rx
  cases ry
  obtain ⟨its, r, pl, _⟩ := I.list hH
  obtain ⟨its2, r2, pl2, _⟩ := I.list hB
  have l1 := r.length
  have l2 := r2.length
  obtain ⟨⟨cls, dd, data, sl⟩, ho, hc, n, hd⟩ := id pl.isList
  obtain ⟨⟨cls2, dd2, data2, sl2⟩, ho2, hc2, n2, hd2⟩ := id pl2.isList
  simp only at hc hd hc2 hd2
  subst hc hd hc2 hd2
  refine concat_meets ⟨_, ho, rfl⟩ ⟨_, ho2, rfl⟩ noFill_list_add seq_list_add PySem.F.slot_list_add PySem.F.entry_list_add (PySem.F.args_list_add_2 _ _) (PyProof.Rows.list_addW l b its.toArray its2.toArray n n2 dd dd2 sl sl2 (by rw [List.size_toArray, List.size_toArray]; omega)) ⟨ho, ho2, ?_⟩
  have ea : its.toArray ++ its2.toArray = (its ++ its2).toArray := by simp
  rw [ea]
  exact ⟨.ref _, _, I.lnew (t' := s.toks) (r.append r2) (by rw [List.length_append]; omega), rfl, q _ I.fresh⟩

/-! ### list * int, whatever the list is -/
section
open PySem.Spec
theorem rmulL_ (j : Int) (u : Tok) (p : Addr) (vs : Array Value) (m : Nat) (q : Option Addr) (z : Array (Option Value)) :
    Meets (Builtin.«int.__rmul__» ⟨[.int j u, .ref p], []⟩) (fun _ R s => s.heap.get? p = some { cls := .type "list", dict := q, data := .seq vs m, slots := z } ∧ R (.ok (.ret Value.notImplemented)) s) := by
  refine .of_wp fun prog w A R s hs => ?_
  obtain ⟨h1, h2, h3, h4, h5⟩ := s
  obtain ⟨hp, hr⟩ := hs
  wp_walk using wpAny_loadPart' hp
  exact ⟨_, rfl, hr⟩
theorem mulL_ (p : Addr) (vs : Array Value) (m : Nat) (q : Option Addr) (z : Array (Option Value)) (j : Int) (u : Tok) (g0 : ¬(!Builtin.List.listFitsIndex j) = true) (g1 : ¬vs.size * j.toNat > (2 ^ 63 - 1) / 8) (g2 : ¬Builtin.List.listTooLong (vs.size * j.toNat) = true) :
    Meets (Builtin.«list.__mul__» ⟨[.ref p, .int j u], []⟩) (fun _ R s => s.heap.get? p = some { cls := .type "list", dict := q, data := .seq vs m, slots := z } ∧ R (.ok (.ret (Value.ref s.heap.objs.size))) { s with heap := s.heap.push { cls := Value.type "list", data := Data.seq (List.foldl (fun y1 y2 => y1 ++ y2) #[] (List.replicate (if vs.isEmpty = true then 0 else j.toNat) vs)) }, toks := s.toks }) := by
  refine .of_wp fun prog w A R s hs => ?_
  obtain ⟨h1, h2, h3, h4, h5⟩ := s
  obtain ⟨hp, hr⟩ := hs
  have hj := PySem.AutoListH.joined_fits g2
  wp_walk using wpAny_loadPart' hp
  refine wpAny_ite_false (decide_eq_false (Nat.not_lt.mpr hj)) ?_
  wp_walk using wpAny_loadPart' hp
  exact ⟨_, rfl, hr⟩
def rRepL (K : Fw) : R2 := fun x y H Q => ∃ l k xs, x = .ref l ∧ y = .int k ∧ SqL K H l xs ∧ -(2 ^ 63) ≤ k ∧ k < 2 ^ 63 ∧ xs.length * k.toNat ≤ sizeLine ∧ ∀ p, H p = none → Q (.ref p) (upd H p (.lst (List.replicate k.toNat xs).flatten))
theorem op_repL : OpR X (binaryOp .Mult) (rRepL (kx X)) := by
  intro pins s σ H x y v u Q I rx ry h
  obtain ⟨l, k, xs, rfl, rfl, hH, b1, b2, hz, q⟩ := h
  cases rx
  obtain ⟨t, rfl⟩ := ry
  obtain ⟨vs, r, pl, _⟩ := I.list hH
  obtain ⟨⟨cl, dd, da, sl⟩, ho, hc, n, hd⟩ := id pl.isList
  simp only at hc hd
  subst hc hd
  have hs : vs.toArray.size * k.toNat ≤ sizeLine := by rw [List.size_toArray, ← r.length]; exact hz
  have g1 : ¬ vs.toArray.size * k.toNat > (2 ^ 63 - 1) / 8 := by
    have e : (sizeLine : Nat) ≤ (2 ^ 63 - 1) / 8 := by decide
    omega
  have g0 : ¬ (!Builtin.List.listFitsIndex k) = true := by rw [fitsIndex_both b1 b2]; exact Bool.false_ne_true
  have g2 : ¬ Builtin.List.listTooLong (vs.toArray.size * k.toNat) = true := by rw [notLongL hs]; exact Bool.false_ne_true
  have hn : List.foldl (fun y1 y2 => y1 ++ y2) #[] (List.replicate (if vs.toArray.isEmpty = true then 0 else k.toNat) vs.toArray) = (List.replicate k.toNat vs).flatten.toArray := by
    have e : ∀ m : Nat, List.foldl (fun y1 y2 => y1 ++ y2) #[] (List.replicate m vs.toArray) = (List.replicate m vs).flatten.toArray := fun m => (foldl_rep vs m []).trans (by rw [List.nil_append])
    rw [e]
    cases vs with
    | nil => simp
    | cons a r' => rw [if_neg (by simp)]
  refine wpAny_binaryOp_repeat_ref (T := "list") (U := "int") (by decide) ⟨_, ho, rfl⟩ (fun z => typeIs_int z k t)
    noFill_list_mul F.fills_int_mul F.slot_int_rmul repeat_list F.slot_int_index.lookup ?_
  refine call_meets F.slot_int_rmul (typeIs_int s k t) F.entry_int_rmul (F.args_int_rmul_2 _ _) (rmulL_ k t l vs.toArray n dd sl) ⟨ho, rfl, ⟨_, ho, rfl⟩, ?_⟩
  refine call_meets F.slot_list_mul ⟨_, ho, rfl⟩ F.entry_list_mul (F.args_list_mul_2 _ _) (mulL_ l vs.toArray n dd sl k t g0 g1 g2) ⟨ho, ?_⟩
  rw [hn]
  refine ⟨.ref _, _, I.lnew (t' := s.toks) (r.rep k.toNat) ?_, rfl, q _ I.fresh⟩
  rw [PyProof.Rows.lm_len_rep_flat, Nat.mul_comm]
  exact hz
end
def opOf : BOp → Operator
  | .add => .Add
  | .sub => .Sub
  | .mul => .Mult
  | .fdiv => .FloorDiv
  | .mod => .Mod
  | .pow => .Pow
def rBin (K : Fw) (o : BOp) : R2 := fun x y H Q => ∃ S a b t, Ext S H ∧ TopR K H S x a ∧ TopR K H S y b ∧ binD o a b = some t ∧ Kont K H S t Q
theorem rBin_of {K : Fw} {r : R2} {o : BOp} {f : Value → Value → Sem Value} (h : OpR X f r) (hi : ∀ x y H Q, rBin K o x y H Q → r x y H Q) : OpR X f (rBin K o) :=
  fun pins s σ H x y v u Q I rx ry q => h pins s σ H x y v u Q I rx ry (hi _ _ _ _ q)
theorem _root_.Ev.Rps.rep {K : Fw} {S : Hp} {vs : List V} {ds : List D} (r : Rps K S vs ds) : ∀ n : Nat, Rps K S (List.replicate n vs).flatten (List.replicate n ds).flatten
  | 0 => .nil
  | n + 1 => by
    rw [List.replicate_succ, List.replicate_succ, List.flatten_cons, List.flatten_cons]
    exact r.app (Rps.rep r n)
theorem op_bin (o : BOp) : OpR X (binaryOp (opOf o)) (rBin (kx X) o) := by
  intro pins s σ H x y v u Q I rx ry ⟨S, a, b, t, es, ta, tb, h, k⟩
  unfold binD at h
  split at h
  · cases h; cases Rp.int_of ta; cases Rp.int_of tb
    exact op_add pins s σ H _ _ v u Q I rx ry ⟨_, _, rfl, rfl, k.val es (.int _)⟩
  · split at h
    · cases h; cases Rp.str_of ta; cases Rp.str_of tb
      rename_i hz
      exact op_add_str pins s σ H _ _ v u Q I rx ry ⟨_, _, rfl, rfl, by rw [← line_eq]; exact hz, k.val es (.str _)⟩
    · cases h
  · split at h
    · cases h
      rename_i hz
      obtain ⟨l, xs, rfl, h1, r1⟩ := ta
      obtain ⟨l2, xs2, rfl, h2, r2⟩ := tb
      exact op_catL pins s σ H _ _ v u Q I rx ry ⟨_, _, xs, xs2, rfl, rfl, h1, h2, by rw [← line_eq, r1.length, r2.length]; exact hz, fun p hp => k.lst (r1.app r2) hp⟩
    · cases h
  · split at h
    · cases h
      rename_i hz
      obtain ⟨l, xs, rfl, h1, r1⟩ := Rp.tup_of ta
      obtain ⟨l2, xs2, rfl, h2, r2⟩ := Rp.tup_of tb
      refine op_catA pins s σ H _ _ v u Q I rx ry ⟨_, _, xs, xs2, rfl, rfl, es.t h1, es.t h2, by rw [← line_eq, r1.length, r2.length]; exact hz, fun q => ?_, fun q q2 => ?_, fun q q2 p hp => k.tup es (r1.app r2) hp⟩
      · have q' := r1.nil_of.mp q
        subst q'
        exact k.val es (.tup h2 r2)
      · have q' := r2.nil_of.mp q2
        subst q'
        rw [List.append_nil] at k
        exact k.val es (.tup h1 r1)
    · cases h
  · cases h; cases Rp.int_of ta; cases Rp.int_of tb
    exact op_sub pins s σ H _ _ v u Q I rx ry ⟨_, _, rfl, rfl, k.val es (.int _)⟩
  · split at h
    · cases h; cases Rp.int_of tb
      rename_i hz
      obtain ⟨z1, z2, z3, z4⟩ := hz
      obtain ⟨l, xs, rfl, h1, r1⟩ := Rp.tup_of ta
      have hl := r1.length
      have hne : xs ≠ [] := fun e => by
        rw [e] at hl
        simp only [List.length_nil] at hl
        omega
      rename_i ds j
      rcases Int.lt_or_le 1 j with g | g
      · exact op_repT pins s σ H _ _ v u Q I rx ry ⟨_, _, xs, rfl, rfl, es.t h1, hne, by omega, z4, by omega, fun p hp => k.tup es (r1.rep _) hp⟩
      · refine op_rep1 pins s σ H _ _ v u Q I rx ry ⟨_, _, xs, rfl, rfl, es.t h1, hne, ?_⟩
        by_cases g1 : j = 1
        · subst g1
          refine .inl ⟨rfl, ?_⟩
          have e : repL (1 : Int).toNat ds = ds := by unfold repL; show (List.replicate 1 ds).flatten = ds; simp
          rw [e] at k
          exact k.val es (.tup h1 r1)
        · refine .inr ⟨by omega, z3, fun p hp => ?_⟩
          have e : repL j.toNat ds = [] := by unfold repL; rw [show j.toNat = 0 by omega]; rfl
          rw [e] at k
          exact k.tup es .nil hp
    · cases h
  · split at h
    · cases h; cases Rp.int_of ta; cases Rp.int_of tb
      rename_i hz
      exact op_mul pins s σ H _ _ v u Q I rx ry ⟨_, _, rfl, rfl, hz, k.val es (.int _)⟩
    · cases h
  · split at h
    · cases h; cases Rp.int_of ta; cases Rp.int_of tb
      rename_i hz
      exact op_fdivW pins s σ H _ _ v u Q I rx ry ⟨_, _, rfl, rfl, hz, k.val es (.int _)⟩
    · cases h
  · split at h
    · cases h; cases Rp.int_of ta; cases Rp.int_of tb
      rename_i hz
      exact op_mod pins s σ H _ _ v u Q I rx ry ⟨_, _, rfl, rfl, hz, k.val es (.int _)⟩
    · cases h
  · split at h
    · cases h; cases Rp.int_of ta; cases Rp.int_of tb
      rename_i hz
      exact op_pow pins s σ H _ _ v u Q I rx ry ⟨_, _, rfl, rfl, hz, k.val es (.int _)⟩
    · cases h
  · split at h
    · cases h; cases Rp.int_of tb
      rename_i hz
      obtain ⟨z1, z2, z3⟩ := hz
      obtain ⟨l, xs, rfl, h1, r1⟩ := ta
      exact op_repL pins s σ H _ _ v u Q I rx ry ⟨_, _, xs, rfl, rfl, h1, z1, z2, by rw [← line_eq, r1.length]; exact z3, fun p hp => k.lst (r1.rep _) hp⟩
    · cases h
  · cases h

/-! ### comparisons -/
def cmpOf : COp → CmpOp
  | .eq => .Eq
  | .ne => .NotEq
  | .lt => .Lt
  | .le => .LtE
  | .gt => .Gt
  | .ge => .GtE
  | .is_ => .Is
  | .isnot => .IsNot
  | .in_ => .In
  | .notin => .NotIn
def rCmp (K : Fw) (o : COp) : R2 := fun x y H Q => ∃ S a b t, Ext S H ∧ TopR K H S x a ∧ TopR K H S y b ∧ cmpD o a b = some t ∧ Q (.bl t) H
theorem op_eq' (hu : X.A.units + 66 < cLine) {pins : List (Addr × Obj)} {s : Shared} {σ : St} {H S : Hp} {x y : V} {v u : Value} {Q : VK} {a b : D} {k : Bool} (I : Inv X pins σ H s) (rx : RelV x v) (ry : RelV y u) (es : Ext S H) (ta : TopR (kx X) H S x a) (tb : TopR (kx X) H S y b)
    (h : eqD a b = some k) : (Q (.bl k) H → wpAny (model X.prog X.w) X.A (compareOp .Eq v u) (EP X pins σ Q) X.xe s) ∧ (Q (.bl (!k)) H → wpAny (model X.prog X.w) X.A (compareOp .NotEq v u) (EP X pins σ Q) X.xe s) := by
  have sc : ∀ k', scal x y = true → decide (x = y) = k' → k = k' → (Q (.bl k) H → wpAny (model X.prog X.w) X.A (compareOp .Eq v u) (EP X pins σ Q) X.xe s) ∧ (Q (.bl (!k)) H → wpAny (model X.prog X.w) X.A (compareOp .NotEq v u) (EP X pins σ Q) X.xe s) := fun k' h1 h2 h3 =>
    ⟨fun q => op_eq pins s σ H _ _ v u Q I rx ry ⟨h1, by rw [h2, ← h3]; exact q⟩, fun q => op_ne pins s σ H _ _ v u Q I rx ry ⟨h1, by rw [h2, ← h3]; exact q⟩⟩
  unfold eqD at h
  split at h
  · cases h; cases Rp.str_of ta; cases Rp.str_of tb
    exact sc _ rfl dec_str rfl
  · cases h; cases Rp.str_of ta; cases Rp.non_of tb
    exact sc false rfl (by simp) rfl
  · cases h; cases Rp.str_of ta; cases Rp.int_of tb
    exact sc false rfl (by simp) rfl
  · cases h; cases Rp.str_of ta; cases Rp.bl_of tb
    exact sc false rfl (by simp) rfl
  · cases h; cases Rp.non_of ta; cases Rp.str_of tb
    exact sc false rfl (by simp) rfl
  · cases h; cases Rp.int_of ta; cases Rp.str_of tb
    exact sc false rfl (by simp) rfl
  · cases h; cases Rp.bl_of ta; cases Rp.str_of tb
    exact sc false rfl (by simp) rfl
  · split at h
    · rename_i hs
      cases h
      rw [Bool.and_eq_true] at hs
      have ra := (ta.rp es).dp (SeqAt.canLay_of_shaped hs.1)
      have rb := (tb.rp es).dp (SeqAt.canLay_of_shaped hs.2)
      exact ⟨fun q => op_eqD (by omega) pins s σ H _ _ v u Q I rx ry ⟨_, _, ra, rb, hs.1, hs.2, q⟩, fun q => op_neD (by omega) pins s σ H _ _ v u Q I rx ry ⟨_, _, ra, rb, hs.1, hs.2, q⟩⟩
    · unfold lenD at h
      split at h
      · rename_i xs ys _ _
        split at h
        · cases h
        · rename_i hne
          cases h
          obtain ⟨l, vs, rfl, hl, rl⟩ := ta
          obtain ⟨m, us, rfl, hm, rm⟩ := tb
          cases rx
          cases ry
          obtain ⟨is1, r1, p1, _⟩ := I.list hl
          obtain ⟨is2, r2, p2, _⟩ := I.list hm
          have e : (is1.toArray.size != is2.toArray.size) = true := by
            have h1 := r1.length
            have h2 := r2.length
            have h3 := rl.length
            have h4 := rm.length
            simp only [List.size_toArray, bne_iff_ne, ne_eq]
            omega
          exact ⟨fun q => SeqAt.RcAt.lists_lengths p1.isList p2.isList e (by omega) _ _ _ _ ⟨.bl false, H, I, rfl, q⟩, fun q => SeqAt.RcNeAt.lists_lengths p1.isList p2.isList e (by omega) _ _ _ _ ⟨.bl true, H, I, rfl, q⟩⟩
      · cases h
theorem op_in' (hu : X.A.units + 66 < cLine) {pins : List (Addr × Obj)} {s : Shared} {σ : St} {H S : Hp} {x y : V} {v u : Value} {Q : VK} {a b : D} {k : Bool} (I : Inv X pins σ H s) (rx : RelV x v) (ry : RelV y u) (es : Ext S H) (ta : TopR (kx X) H S x a) (tb : TopR (kx X) H S y b)
    (h : inD a b = some k) : (Q (.bl k) H → wpAny (model X.prog X.w) X.A (compareOp .In v u) (EP X pins σ Q) X.xe s) ∧ (Q (.bl (!k)) H → wpAny (model X.prog X.w) X.A (compareOp .NotIn v u) (EP X pins σ Q) X.xe s) := by
  unfold inD at h
  split at h
  · split at h
    · rename_i hs
      cases h
      rw [Bool.and_eq_true] at hs
      have ra := (ta.rp es).dp (SeqAt.canLay_of_shaped hs.1)
      have rb := (tb.rp es).dp (SeqAt.canLay_of_shaped hs.2)
      exact ⟨fun q => op_inD (by omega) pins s σ H _ _ v u Q I rx ry ⟨_, _, ra, rb, hs.1, hs.2, q⟩, fun q => op_notInD (by omega) pins s σ H _ _ v u Q I rx ry ⟨_, _, ra, rb, hs.1, hs.2, q⟩⟩
    · cases h
  · split at h
    · rename_i hs
      cases h
      rw [Bool.and_eq_true] at hs
      have ra := (ta.rp es).dp (SeqAt.canLay_of_shaped hs.1)
      have rb := (tb.rp es).dp (SeqAt.canLay_of_shaped hs.2)
      obtain ⟨as, r1⟩ := Dp.reads I _ x v ra rx
      obtain ⟨bs, r2⟩ := Dp.reads I _ y u rb ry
      exact ⟨fun q => SeqAt.in_tuple_reads r2 r1 (SeqAt.canLay_of_shaped hs.2) (SeqAt.canLay_of_shaped hs.1) (PyProof.Rows.room_in_shaped hs.1 (by omega)) ⟨.bl _, H, I, rfl, q⟩,
        fun q => SeqAt.notIn_tuple_reads r2 r1 (SeqAt.canLay_of_shaped hs.2) (SeqAt.canLay_of_shaped hs.1) (PyProof.Rows.room_in_shaped hs.1 (by omega)) ⟨.bl _, H, I, rfl, q⟩⟩
    · cases h
  · split at h
    · cases h; cases Rp.str_of ta; cases Rp.str_of tb
      exact ⟨fun q => op_in_str pins s σ H _ _ v u Q I rx ry ⟨_, _, rfl, rfl, q⟩, fun q => op_notin_str pins s σ H _ _ v u Q I rx ry ⟨_, _, rfl, rfl, q⟩⟩
    · cases h
  · split at h
    · cases h
    · rename_i ho
      split at h
      · rename_i hk
        cases h
        obtain ⟨k, hk⟩ := Option.isSome_iff_exists.mp hk
        obtain ⟨p, rfl, r⟩ := tb
        obtain ⟨o', es', hd, r⟩ := r.dn (by simpa using ho)
        obtain ⟨_, _, ds, rfl⟩ := keyT_of hk
        cases (show u = Value.ref p from ry)
        exact ⟨fun q => dct_in hu I es hd r ta hk rx fun s' I' => ⟨.bl _, H, I', rfl, q⟩, fun q => dct_notIn hu I es hd r ta hk rx fun s' I' => ⟨.bl _, H, I', rfl, q⟩⟩
      · cases h
  · cases h
theorem TopR.isnon {K : Fw} {H S : Hp} {x : V} {a : D} (t : TopR K H S x a) : decide (x = .non) = isNone a := by
  cases a with
  | none => cases Rp.non_of t; rfl
  | bool b => cases Rp.bl_of t; rfl
  | int b => cases Rp.int_of t; rfl
  | str b => cases Rp.str_of t; rfl
  | tuple b => obtain ⟨_, _, rfl, _⟩ := Rp.tup_of t; rfl
  | list b => obtain ⟨_, _, rfl, _⟩ := t; rfl
  | dict b => obtain ⟨_, rfl, _⟩ := t; rfl
theorem op_is' {pins : List (Addr × Obj)} {s : Shared} {σ : St} {H S : Hp} {x y : V} {v u : Value} {Q : VK} {a b : D} {k : Bool} (I : Inv X pins σ H s) (rx : RelV x v) (ry : RelV y u) (ta : TopR (kx X) H S x a) (tb : TopR (kx X) H S y b)
    (h : isD a b = some k) : (Q (.bl k) H → wpAny (model X.prog X.w) X.A (compareOp .Is v u) (EP X pins σ Q) X.xe s) ∧ (Q (.bl (!k)) H → wpAny (model X.prog X.w) X.A (compareOp .IsNot v u) (EP X pins σ Q) X.xe s) := by
  unfold isD at h
  split at h
  · cases Rp.non_of tb
    have e := ta.isnon
    have e' := Option.some.inj h
    have e2 := e.trans e'
    exact ⟨fun q => op_isN pins s σ H _ _ v u Q I rx ry ⟨rfl, by rw [e2]; exact q⟩, fun q => op_notN pins s σ H _ _ v u Q I rx ry ⟨rfl, by rw [e2]; exact q⟩⟩
  · cases Rp.bl_of ta; cases Rp.bl_of tb
    rename_i a b
    have e : decide (a = b) = k := by rw [← Option.some.inj h]; cases a <;> cases b <;> rfl
    exact ⟨fun q => op_is_bl pins s σ H _ _ v u Q I rx ry ⟨_, _, rfl, rfl, by rw [e]; exact q⟩, fun q => op_isnot_bl pins s σ H _ _ v u Q I rx ry ⟨_, _, rfl, rfl, by rw [e]; exact q⟩⟩
  · cases h
theorem op_cmp (hu : X.A.units + 66 < cLine) (o : COp) : OpR X (compareOp (cmpOf o)) (rCmp (kx X) o) := by
  intro pins s σ H x y v u Q I rx ry ⟨S, a, b, t, es, ta, tb, h, k⟩
  have neg : ∀ {o : Option Bool}, o.map (!·) = some t → ∃ t', o = some t' ∧ t = !t' := fun {o} e => by
    cases o with
    | none => cases e
    | some t' => exact ⟨t', rfl, (Option.some.inj e).symm⟩
  have ord : ∀ o, ordD o a b = some t → wpAny (model X.prog X.w) X.A (compareOp (cmpOf o) v u) (EP X pins σ Q) X.xe s := fun o h => by
    unfold ordD at h
    split at h
    · rename_i xs ys _
      split at h
      · rename_i hk
        obtain ⟨k1, k2, k3, k4⟩ := hk
        have ra := Dp.reads I _ _ _ ((ta.rp es).dp k2) rx
        have rb := Dp.reads I _ _ _ ((tb.rp es).dp k3) ry
        obtain ⟨_, ra⟩ := ra
        obtain ⟨_, rb⟩ := rb
        have hun : X.A.units + min (PyData.tuple xs).depth (PyData.tuple ys).depth < cLine := by omega
        have hun2 : X.A.units + min (PyData.tuple ys).depth (PyData.tuple xs).depth < cLine := by omega
        have fin : ∀ c : Bool, c = t → EP X pins σ Q (.bool c) s := fun c e => ⟨.bl c, H, I, rfl, by rw [e]; exact k⟩
        cases o with
        | lt => exact PySem.W.lt_data ra rb k1 (by simp) hun (fin _ (Option.some.inj h))
        | le => exact PySem.W.le_data ra rb k1 (by simp) hun (fin _ (Option.some.inj h))
        | gt => exact PySem.W.gt_data ra rb k1 (by simp) hun (fin _ (Option.some.inj h))
        | ge => exact PySem.W.ge_data ra rb k1 (by simp) hun (fin _ (Option.some.inj h))
        | _ => cases h
      · cases h
    · cases Rp.int_of ta; cases Rp.int_of tb
      cases o with
      | lt => cases h; exact op_lt pins s σ H _ _ v u Q I rx ry ⟨_, _, rfl, rfl, k⟩
      | le => cases h; exact op_le pins s σ H _ _ v u Q I rx ry ⟨_, _, rfl, rfl, k⟩
      | gt => cases h; exact op_gt pins s σ H _ _ v u Q I rx ry ⟨_, _, rfl, rfl, k⟩
      | ge => cases h; exact op_ge pins s σ H _ _ v u Q I rx ry ⟨_, _, rfl, rfl, k⟩
      | _ => cases h
    · cases h
  cases o with
  | eq => exact (op_eq' hu I rx ry es ta tb h).1 k
  | ne => obtain ⟨t', h', e⟩ := neg h; subst e; exact (op_eq' hu I rx ry es ta tb h').2 k
  | in_ => exact (op_in' hu I rx ry es ta tb h).1 k
  | notin => obtain ⟨t', h', e⟩ := neg h; subst e; exact (op_in' hu I rx ry es ta tb h').2 k
  | is_ => exact (op_is' I rx ry ta tb h).1 k
  | isnot => obtain ⟨t', h', e⟩ := neg h; subst e; exact (op_is' I rx ry ta tb h').2 k
  | lt => exact ord _ h
  | le => exact ord _ h
  | gt => exact ord _ h
  | ge => exact ord _ h

/-! ### subscripts -/
theorem atI_rps {K : Fw} {S : Hp} {xs : List V} {ds : List D} {i : Int} {d : D} (r : Rps K S xs ds) (h : atI ds i = some d) : ∃ v, atI xs i = some v ∧ Rp K S v d := by
  unfold atI at h ⊢
  rw [r.length]
  cases e : ixN ds.length i with
  | none => rw [e] at h; cases h
  | some j =>
    rw [e] at h
    obtain ⟨v, h1, h2⟩ := r.get (i := j) h
    exact ⟨v, h1, h2⟩
def rIxD (K : Fw) : R2 := fun x y H Q => ∃ S a b t, Ext S H ∧ TopR K H S x a ∧ TopR K H S y b ∧ idxD a b = some t ∧ Kont K H S t Q
theorem ix_dat (hu : X.A.units + 66 < cLine) : IxR X (rIxD (kx X)) := by
  intro value slice pins s σ H x y v u Q I rx ry ⟨S, a, b, t, es, ta, tb, h, k⟩ hs
  unfold idxD at h
  split at h
  rotate_left 2
  · split at h
    · cases h
    · rename_i ho
      split at h
      · rename_i hk
        obtain ⟨d, hd, rfl⟩ := Option.map_eq_some_iff.mp h
        obtain ⟨ky, hk⟩ := Option.isSome_iff_exists.mp hk
        obtain ⟨p, rfl, r⟩ := ta
        obtain ⟨o', es', hp, r⟩ := r.dn (by simpa using ho)
        obtain ⟨_, _, ds, rfl⟩ := keyT_of hk
        cases (show v = Value.ref p from rx)
        obtain ⟨_, dd, _⟩ := dct_of I es hp r
        exact PyProof.Rows.tail_any dd.typeIs PySem.F.slot_dict_getitem.lookup (dct_get hu I es hp r tb hk ry hd fun v w' s' I' rw' rv' => ⟨v, H, I', rw', k.val es rv'⟩) hs
      · cases h
  rotate_right 2
  · obtain ⟨d, hd, rfl⟩ := Option.map_eq_some_iff.mp h
    cases Rp.int_of tb
    obtain ⟨p, xs, rfl, h1, r1⟩ := ta
    obtain ⟨w, hw, rw'⟩ := atI_rps r1 hd
    exact ix_list value slice pins s σ H _ _ v u Q I rx ry ⟨_, _, _, _, rfl, rfl, h1, hw, k.val es rw'⟩ hs
  · obtain ⟨d, hd, rfl⟩ := Option.map_eq_some_iff.mp h
    cases Rp.int_of tb
    obtain ⟨p, xs, rfl, h1, r1⟩ := Rp.tup_of ta
    obtain ⟨w, hw, rw'⟩ := atI_rps r1 hd
    exact ix_tup value slice pins s σ H _ _ v u Q I rx ry ⟨_, _, _, _, rfl, rfl, es.t h1, hw, k.val es rw'⟩ hs
  · split at h
    · rename_i hz
      obtain ⟨d, hd, rfl⟩ := Option.map_eq_some_iff.mp h
      cases Rp.str_of ta; cases Rp.int_of tb
      exact ix_str value slice pins s σ H _ _ v u Q I rx ry ⟨_, _, _, rfl, rfl, by rw [← line_eq]; exact hz, hd, k.val es (.str _)⟩ hs
    · cases h
  · cases h
theorem cut_rps {K : Fw} {S : Hp} {xs : List V} {ds : List D} (r : Rps K S xs ds) (lo hi : Option Int) : Rps K S (cutV xs lo hi) (cut ds lo hi) := by
  unfold cutV cut
  rw [r.length]
  exact (r.drop _).take _
theorem cut_whole {α : Type} {xs : List α} {lo hi : Option Int} (h : HT.sIx xs.length 0 lo = 0 ∧ HT.sIx xs.length xs.length hi = xs.length) : cut xs lo hi = xs := by
  unfold cut
  rw [h.1, h.2]
  simp
def rSlD (K : Fw) : V → Option Int → Option Int → Hp → VK → Prop := fun x lo hi H Q => ∃ S a t, Ext S H ∧ TopR K H S x a ∧ slcD lo hi a = some t ∧ Kont K H S t Q
theorem sl_dat : L2.SlR X (rSlD (kx X)) := by
  intro pins s σ H x v vl vu lo hi sl Q I rx hs pl pu ⟨S, a, t, es, ta, h, k⟩
  unfold slcD at h
  split at h
  · cases h
    obtain ⟨p, xs, rfl, h1, r1⟩ := ta
    exact sl_list pins s σ H _ v vl vu lo hi sl Q I rx hs pl pu ⟨_, _, rfl, h1, fun p hp => k.lst (cut_rps r1 lo hi) hp⟩
  · cases h
    obtain ⟨p, xs, rfl, h1, r1⟩ := Rp.tup_of ta
    refine sl_tupA pins s σ H _ v vl vu lo hi sl Q I rx hs pl pu ⟨_, _, rfl, es.t h1, fun q => ?_, fun _ p hp => k.tup es (cut_rps r1 lo hi) hp⟩
    rw [r1.length] at q
    rw [cut_whole q] at k
    exact k.val es (.tup h1 r1)
  · split at h
    · rename_i hz
      cases h
      cases Rp.str_of ta
      exact sl_str pins s σ H _ v vl vu lo hi sl Q I rx hs pl pu ⟨_, rfl, by rw [← line_eq]; exact hz, k.val es (.str _)⟩
    · cases h
  · cases h
def rUn (K : Fw) (f : D → Option (Bool × D)) : V → Hp → VK → Prop := fun x H Q => ∃ S a t, Ext S H ∧ TopR K H S x a ∧ f a = some t ∧ Kont K H S t Q
theorem un_neg' : UnR X (unaryOp .USub) (rUn (kx X) negD) := by
  intro pins s σ H x v Q I rx ⟨S, a, t, es, ta, h, k⟩
  unfold negD at h
  split at h
  · cases h
    cases Rp.int_of ta
    exact un_neg pins s σ H _ v Q I rx ⟨_, rfl, k.val es (.int _)⟩
  · cases h

/-! ### calls of built-ins -/
inductive TopRs (K : Fw) (H S : Hp) : List V → List D → Prop
  | nil : TopRs K H S [] []
  | cons {v : V} {vs : List V} {d : D} {ds : List D} : TopR K H S v d → TopRs K H S vs ds → TopRs K H S (v :: vs) (d :: ds)
theorem TopRs.one {K : Fw} {H S : Hp} {vs : List V} {d : D} (h : TopRs K H S vs [d]) : ∃ v, vs = [v] ∧ TopR K H S v d := by
  cases h with
  | cons h r => cases r; exact ⟨_, rfl, h⟩
theorem TopRs.two {K : Fw} {H S : Hp} {vs : List V} {d e : D} (h : TopRs K H S vs [d, e]) : ∃ v w, vs = [v, w] ∧ TopR K H S v d ∧ TopR K H S w e := by
  cases h with
  | cons h r =>
    obtain ⟨w, rfl, h2⟩ := r.one
    exact ⟨_, _, rfl, h, h2⟩
theorem ints_rps {K : Fw} {S : Hp} : ∀ {xs : List V} {ds : List D} {ns : List Int}, Rps K S xs ds → intsOf ds = some ns → xs = ns.map V.int
  | _, _, _, .nil, h => by cases h; rfl
  | _, d :: ds, ns, .cons h r, e => by
    cases d with
    | int i =>
      obtain ⟨ms, h1, rfl⟩ := Option.map_eq_some_iff.mp (show (intsOf ds).map (i :: ·) = some ns from e)
      cases h
      rw [ints_rps r h1]
      rfl
    | _ => cases e
theorem bools_rps {K : Fw} {S : Hp} : ∀ {xs : List V} {ds : List D} {ns : List Bool}, Rps K S xs ds → boolsOf ds = some ns → xs = ns.map V.bl
  | _, _, _, .nil, h => by cases h; rfl
  | _, d :: ds, ns, .cons h r, e => by
    cases d with
    | bool i =>
      obtain ⟨ms, h1, rfl⟩ := Option.map_eq_some_iff.mp (show (boolsOf ds).map (i :: ·) = some ns from e)
      cases h
      rw [bools_rps r h1]
      rfl
    | _ => cases e
def biName : Bi → Str
  | .len => "len" | .int => "int" | .abs => "abs" | .max2 => "max" | .min2 => "min" | .list => "list" | .tuple => "tuple" | .sum => "sum" | .all => "all" | .any => "any" | .str => "str" | .srt => "sorted"
def biVal : Bi → Value
  | .len => .builtin "len" | .int => .type "int" | .abs => .builtin "abs" | .max2 => .builtin "max" | .min2 => .builtin "min" | .list => .type "list" | .tuple => .type "tuple" | .sum => .builtin "sum" | .all => .builtin "all" | .any => .builtin "any" | .str => .type "str" | .srt => .builtin "sorted"
def rBi (K : Fw) (b : Bi) : List V → Hp → VK → Prop := fun vs H Q => ∃ S ds t, Ext S H ∧ TopRs K H S vs ds ∧ biD b ds = some t ∧ Kont K H S t Q
theorem max_foldl : ∀ (ns : List Int) (n : Int), (ns.foldl (fun a b => if b > a then b else a) n ∈ n :: ns) ∧ ∀ y ∈ n :: ns, y ≤ ns.foldl (fun a b => if b > a then b else a) n
  | [], n => ⟨by simp, by simp⟩
  | m :: ns, n => by
    obtain ⟨h1, h2⟩ := max_foldl ns (if m > n then m else n)
    rw [List.foldl_cons]
    refine ⟨?_, fun y hy => ?_⟩
    · rcases List.mem_cons.mp h1 with h | h
      · rw [h]; split <;> simp
      · exact List.mem_cons_of_mem _ (List.mem_cons_of_mem _ h)
    · have h3 := h2 _ (List.mem_cons_self ..)
      rcases List.mem_cons.mp hy with rfl | hy
      · split at h3 <;> split <;> omega
      · rcases List.mem_cons.mp hy with rfl | hy
        · split at h3 <;> split <;> omega
        · exact h2 y (List.mem_cons_of_mem _ hy)
theorem min_foldl : ∀ (ns : List Int) (n : Int), (ns.foldl (fun a b => if b < a then b else a) n ∈ n :: ns) ∧ ∀ y ∈ n :: ns, ns.foldl (fun a b => if b < a then b else a) n ≤ y
  | [], n => ⟨by simp, by simp⟩
  | m :: ns, n => by
    obtain ⟨h1, h2⟩ := min_foldl ns (if m < n then m else n)
    rw [List.foldl_cons]
    refine ⟨?_, fun y hy => ?_⟩
    · rcases List.mem_cons.mp h1 with h | h
      · rw [h]; split <;> simp
      · exact List.mem_cons_of_mem _ (List.mem_cons_of_mem _ h)
    · have h3 := h2 _ (List.mem_cons_self ..)
      rcases List.mem_cons.mp hy with rfl | hy
      · split at h3 <;> split <;> omega
      · rcases List.mem_cons.mp hy with rfl | hy
        · split at h3 <;> split <;> omega
        · exact h2 y (List.mem_cons_of_mem _ hy)
theorem maxL_ok {ns : List Int} (h : ns ≠ []) : maxL ns ∈ ns ∧ ∀ y ∈ ns, y ≤ maxL ns := by
  cases ns with
  | nil => exact absurd rfl h
  | cons n ns => exact max_foldl ns n
theorem minL_ok {ns : List Int} (h : ns ≠ []) : minL ns ∈ ns ∧ ∀ y ∈ ns, minL ns ≤ y := by
  cases ns with
  | nil => exact absurd rfl h
  | cons n ns => exact min_foldl ns n
theorem call_bi (un : X.A.units + 66 < cLine) (hc : X.calm = true) (b : Bi) : CallR X (biVal b) (rBi (kx X) b) := by
  intro pins s σ H xs us Q I r ⟨S, ds, t, es, tr, h, k⟩
  have r0 := r
  unfold biD at h
  split at h
  · cases h
    obtain ⟨v, rfl, p, ys, rfl, h1, r1⟩ := tr.one
    exact call_len_seq pins s σ H _ us Q I r ⟨p, ys, rfl, .inl h1, by rw [r1.length]; exact k.val es (.int _)⟩
  · cases h
    obtain ⟨v, rfl, t1⟩ := tr.one
    obtain ⟨p, ys, rfl, h1, r1⟩ := Rp.tup_of t1
    exact call_len_seq pins s σ H _ us Q I r ⟨p, ys, rfl, .inr (es.t h1), by rw [r1.length]; exact k.val es (.int _)⟩
  · split at h
    · cases h
    · rename_i ho
      cases h
      obtain ⟨v, rfl, p, rfl, rd⟩ := tr.one
      obtain ⟨o', es', hd, rd⟩ := rd.dn (by simpa using ho)
      obtain ⟨u1, rfl, r1⟩ := vals1 r0
      cases (show u1 = Value.ref p from r1)
      obtain ⟨xs, dd, pe, hm, z, z2⟩ := dct_of I es hd rd
      have el := (Paired.length pe).symm.trans rd.length
      refine call_len_dictH hm dd (by rw [sizeLine_eq] at z2; omega) ?_
      rw [el]
      exact ⟨.int _, H, I.tok _, ⟨_, rfl⟩, k.val es (.int _)⟩
  · split at h
    · rename_i hz
      cases h
      obtain ⟨v, rfl, t1⟩ := tr.one
      cases Rp.str_of t1
      exact call_len_str pins s σ H _ us Q I r ⟨_, rfl, by rw [← line_eq]; exact hz, k.val es (.int _)⟩
    · cases h
  · cases h
    obtain ⟨v, rfl, t1⟩ := tr.one
    cases Rp.int_of t1
    exact call_int1 pins s σ H _ us Q I r (.inl ⟨_, rfl, k.val es (.int _)⟩)
  · cases h
    obtain ⟨v, rfl, t1⟩ := tr.one
    cases Rp.bl_of t1
    exact call_int1 pins s σ H _ us Q I r (.inr ⟨_, rfl, k.val es (.int _)⟩)
  · cases h
    obtain ⟨v, rfl, t1⟩ := tr.one
    cases Rp.int_of t1
    exact call_abs pins s σ H _ us Q I r ⟨_, rfl, k.val es (.int _)⟩
  · cases h
    obtain ⟨v, w, rfl, t1, t2⟩ := tr.two
    cases Rp.int_of t1; cases Rp.int_of t2
    exact call_max2 hc pins s σ H _ us Q I r ⟨_, _, rfl, k.val es (.int _)⟩
  · cases h
    obtain ⟨v, w, rfl, t1, t2⟩ := tr.two
    cases Rp.int_of t1; cases Rp.int_of t2
    exact call_min2 hc pins s σ H _ us Q I r ⟨_, _, rfl, k.val es (.int _)⟩
  · cases h
    obtain ⟨v, rfl, p, ys, rfl, h1, r1⟩ := tr.one
    exact call_list_of pins s σ H _ us Q I r ⟨p, ys, rfl, .inl h1, fun l hl => k.lst r1 hl⟩
  · cases h
    obtain ⟨v, rfl, t1⟩ := tr.one
    obtain ⟨p, ys, rfl, h1, r1⟩ := Rp.tup_of t1
    exact call_list_of pins s σ H _ us Q I r ⟨p, ys, rfl, .inr (es.t h1), fun l hl => k.lst r1 hl⟩
  · cases h
    obtain ⟨v, rfl, p, ys, rfl, h1, r1⟩ := tr.one
    exact call_tuple_of pins s σ H _ us Q I r ⟨p, ys, rfl, .inl ⟨h1, fun l hl => k.tup es r1 hl⟩⟩
  · cases h
    obtain ⟨v, rfl, t1⟩ := tr.one
    obtain ⟨p, ys, rfl, h1, r1⟩ := Rp.tup_of t1
    exact call_tuple_of pins s σ H _ us Q I r ⟨p, ys, rfl, .inr ⟨es.t h1, k.val es (.tup h1 r1)⟩⟩
  · obtain ⟨ns, h1, rfl⟩ := Option.map_eq_some_iff.mp h
    obtain ⟨v, rfl, p, ys, rfl, h2, r1⟩ := tr.one
    cases ints_rps r1 h1
    exact cr_sum hc pins s σ H _ us Q I r ⟨p, ns, rfl, h2, k.val es (.int _)⟩
  · obtain ⟨ns, h1, rfl⟩ := Option.map_eq_some_iff.mp h
    obtain ⟨v, rfl, p, ys, rfl, h2, r1⟩ := tr.one
    cases bools_rps r1 h1
    exact cr_all hc pins s σ H _ us Q I r ⟨p, ns, rfl, h2, k.val es (.bl _)⟩
  · obtain ⟨ns, h1, rfl⟩ := Option.map_eq_some_iff.mp h
    obtain ⟨v, rfl, p, ys, rfl, h2, r1⟩ := tr.one
    cases bools_rps r1 h1
    exact cr_any hc pins s σ H _ us Q I r ⟨p, ns, rfl, h2, k.val es (.bl _)⟩
  · split at h
    · rename_i hz
      cases h
      obtain ⟨v, rfl, p, ys, rfl, h2, r1⟩ := tr.one
      obtain ⟨u1, rfl, q1⟩ := vals1 r0
      cases (show u1 = Value.ref p from q1)
      exact srt_list un I es h2 r1 hz fun l zs r2 hn => k.lst r2 hn
    · cases h
  · split at h
    · cases h
    · rename_i ho
      split at h
      · rename_i hz
        cases h
        obtain ⟨v, rfl, p, rfl, rd⟩ := tr.one
        obtain ⟨o', es', hd, rd⟩ := rd.dn (by simpa using ho)
        obtain ⟨u1, rfl, q1⟩ := vals1 r0
        cases (show u1 = Value.ref p from q1)
        exact srt_dict un hc I es hd rd hz fun l zs r2 hn => k.lst r2 hn
      · cases h
  · split at h
    · rename_i hz
      cases h
      obtain ⟨v, rfl, tv⟩ := tr.one
      obtain ⟨p, ys, rfl, h2, r1⟩ := Rp.tup_of tv
      obtain ⟨u1, rfl, q1⟩ := vals1 r0
      cases (show u1 = Value.ref p from q1)
      exact srt_tup un I es (es.t h2) r1 hz fun l zs r2 hn => k.lst r2 hn
    · cases h
  · obtain ⟨ns, h1, h⟩ := Option.bind_eq_some_iff.mp h
    split at h
    · cases h
    · rename_i hz
      cases h
      obtain ⟨v, rfl, p, ys, rfl, h2, r1⟩ := tr.one
      cases ints_rps r1 h1
      refine cr_max hc pins s σ H _ us Q I r ⟨p, ns, rfl, h2, List.length_pos_iff.mpr hz, fun m hm hy => ?_⟩
      have e : m = maxL ns := Int.le_antisymm ((maxL_ok hz).2 m hm) (hy _ (maxL_ok hz).1)
      rw [e]
      exact k.val es (.int _)
  · obtain ⟨ns, h1, h⟩ := Option.bind_eq_some_iff.mp h
    split at h
    · cases h
    · rename_i hz
      cases h
      obtain ⟨v, rfl, p, ys, rfl, h2, r1⟩ := tr.one
      cases ints_rps r1 h1
      refine cr_min hc pins s σ H _ us Q I r ⟨p, ns, rfl, h2, List.length_pos_iff.mpr hz, fun m hm hy => ?_⟩
      have e : m = minL ns := Int.le_antisymm (hy _ (minL_ok hz).1) ((minL_ok hz).2 m hm)
      rw [e]
      exact k.val es (.int _)
  · split at h
    · rename_i hz
      cases h
      obtain ⟨v, rfl, t1⟩ := tr.one
      cases Rp.int_of t1
      exact call_str_int pins s σ H _ us Q I r ⟨_, rfl, hz, k.val es (.str _)⟩
    · cases h
  · cases h

/-! ### isinstance of data -/
def tyName : Ty → String
  | .int => "int" | .bool => "bool" | .str => "str" | .tuple => "tuple" | .list => "list"
def dTy : D → String
  | .none => "NoneType" | .bool _ => "bool" | .int _ => "int" | .str _ => "str" | .list _ => "list" | .tuple _ => "tuple" | .dict _ => "dict"
/-- a value's type -/
inductive TyE (K : Fw) (H : Hp) : V → Value → Prop where
  | x {x : V} {t : Value} (h : TyX K.K H x t) : TyE K H x t
  | dn {a : Addr} {o : Obj} {es : List (NestedKey × Addr × V)} (h : H a = some (dN K.w a o es)) : TyE K H (.ref a) (.type "dict")
theorem kit_ofE {pins : List (Addr × Obj)} {s : Shared} {σ : St} {H : Hp} {x : V} {u t : Value} (I : Inv X pins σ H s) (rx : RelV x u) (ty : TyE (kx X) H x t) : ∃ P : Heap → Prop, PySem.W.KitX X.K u t P ∧ P s.heap ∧ u ≠ .builtin "__main__.__loader__#opaque" := by
  cases ty with
  | x h => exact kit_of I rx h
  | @dn a o es h =>
    cases (show u = Value.ref a from rx)
    obtain ⟨⟨z, hm, nd, xs, p, des, ep, ho, hx, hdat, hl⟩, _, _⟩ := I.hok a _ h
    exact ⟨_, PySem.W.kitx_dict, ⟨o, ho, hx.1⟩, fun z => nomatch z⟩
/-- isinstance(x, c), one class -/
def rIsiE (K : Fw) : List V → Hp → VK → Prop := fun xs H Q => ∃ (x c : V) (t u : Value) (b : Bool), xs = [x, c] ∧ ClsV c u ∧ TyE K H x t ∧ PySem.W.kitOne K.K t u = some b ∧ Q (.bl b) H
theorem call_isiE : CallR X (.builtin "isinstance") (rIsiE (kx X)) := by
  intro pins s σ H xs us Q I r h
  obtain ⟨x, c, t, u, b, rfl, k, ty, e, q⟩ := h
  obtain ⟨u1, u2, rfl, r1, r2⟩ := vals2 r
  have e2 := k.eq r2
  subst e2
  obtain ⟨P, Z, p, hx⟩ := kit_ofE I r1 ty
  exact PySem.W.kia_one Z I.kIn p e hx fun tk => ⟨.bl b, H, I.tok tk, rfl, q⟩
theorem TopR.tyx {K : Fw} {H S : Hp} {x : V} {a : D} (es : Ext S H) (t : TopR K H S x a) : TyE K H x (.type (dTy a)) := by
  cases a with
  | none => cases Rp.non_of t; exact .x <| .base .non
  | bool b => cases Rp.bl_of t; exact .x <| .base (.bl _)
  | int b => cases Rp.int_of t; exact .x <| .base (.int _)
  | str b => cases Rp.str_of t; exact .x <| .base (.str _)
  | tuple b =>
    obtain ⟨p, xs, rfl, h, _⟩ := Rp.tup_of t
    rcases es.t h with (h | ⟨o, h⟩) | ⟨o, its, n, h, hc, _⟩
    · exact .x <| .base (.tup h)
    · exact .x <| .fTuple h
    · exact .x <| .kTuple h hc
  | list b =>
    obtain ⟨p, xs, rfl, h, _⟩ := t
    rcases h with (h | ⟨o, h⟩) | ⟨o, its, n, h, hc, _⟩
    · exact .x <| .base (.lst h)
    · exact .x <| .base (.frz h)
    · exact .x <| .kList h hc
  | dict b =>
    obtain ⟨a, rfl, ⟨o, es, h, r⟩ | ⟨h, _, r⟩⟩ := t
    · exact .dn h
    · exact .x <| .base (.dK r)
theorem kit_isi {K : Fw} {ty : Ty} {a : D} {k : Bool} (h : isiD ty a = some k) : PySem.W.kitOne K (.type (dTy a)) (.type (tyName ty)) = some k := by
  cases ty <;> cases a <;> first
    | (cases h; simp only [dTy, tyName]; exact kit_ty (by decide +kernel))
    | cases h
end
end Ev

-- Ev5
/-! Ev5: readings by the evaluator; each construct's rule. -/
namespace Ev
open PySem L2

/-- an exception: its class by its name, its own dict -/
def ExR (K : Fw) (mg : Str → Option Value) (S : Hp) (x : Ex) (cls : Value) (dd : Option Addr) : Prop := mg x.cls = some cls ∧ ExD K S x dd
/-- what a frame's proof goes by -/
structure Gx where
  K : Fw
  mg : Str → Option Value
  F : Frm
  W : WX
def ConfE (G : Gx) (ρ : Rho) (ts : List Tm) (σ : St) (vs : List V) (H : Hp) (x : Ex) (cls : Value) (dd : Option Addr) : Prop := ∃ S as bs, Cf G.K G.F S ρ ts σ vs H as bs ∧ ExR G.K G.mg S x cls dd
def PostR {α : Type} (G : Gx) (ts : List Tm) (σ : St) (vs : List V) (r : Res α) (Q : α → Rho → Prop) : Prop := match r with
  | .ok a ρ => Q a ρ
  | .exc x ρ => ∀ cls dd H, ConfE G ρ ts σ vs H x cls dd → G.W cls dd σ H
  | .bad => False

section
variable {G : Gx} {ts : List Tm} {σ : St} {vs : List V} {α β : Type}
theorem ConfE.drop {ρ : Rho} {t : Tm} {v : V} {H : Hp} {x : Ex} {cls : Value} {dd : Option Addr} (c : ConfE G ρ (t :: ts) σ (v :: vs) H x cls dd) : ConfE G ρ ts σ vs H x cls dd := by
  obtain ⟨S, as, bs, c, e⟩ := c
  obtain ⟨cs, c⟩ := c.drop
  exact ⟨S, as, cs, c, e⟩
theorem PostR.mono {r : Res α} {Q Q' : α → Rho → Prop} (p : PostR G ts σ vs r Q) (h : ∀ a ρ, Q a ρ → Q' a ρ) : PostR G ts σ vs r Q' := by
  cases r with
  | ok a ρ => exact h a ρ p
  | exc x ρ => exact p
  | bad => exact p
theorem PostR.weak {r : Res α} {Q : α → Rho → Prop} {t : Tm} {v : V} (p : PostR G ts σ vs r Q) : PostR G (t :: ts) σ (v :: vs) r Q := by
  cases r with
  | ok a ρ => exact p
  | exc x ρ => exact fun cls dd H c => p cls dd H c.drop
  | bad => exact p
theorem PostR.bind {r : Res α} {f : α → Rho → Res β} {Q : β → Rho → Prop} (p : PostR G ts σ vs (r.bind f) Q) : PostR G ts σ vs r fun a ρ => PostR G ts σ vs (f a ρ) Q := by
  cases r with
  | ok a ρ => exact p
  | exc x ρ => exact p
  | bad => exact p
end

/-! ### readings -/
def tE (G : Gx) (e : E) : TE := fun σ H Q => ∃ ρ ts vs, Conf G.K G.F ρ ts σ vs H ∧ PostR G ts σ vs (evalE e ρ) fun t ρ' => ∀ v H', Conf G.K G.F ρ' (t :: ts) σ (v :: vs) H' → Q v H'
def tEs (G : Gx) (es : Es) : TA := fun σ H Q => ∃ ρ ts vs, Conf G.K G.F ρ ts σ vs H ∧ PostR G ts σ vs (evalEs es ρ) fun us ρ' => ∀ ws H', Conf G.K G.F ρ' (us.reverse ++ ts) σ (ws.reverse ++ vs) H' → ws.length = us.length → Q ws H'
def tT (G : Gx) (e : T) : TT := fun σ H Q => ∃ ρ ts vs, Conf G.K G.F ρ ts σ vs H ∧ PostR G ts σ vs (evalT e ρ) fun k ρ' => ∀ H', Conf G.K G.F ρ' ts σ vs H' → Q k H'
def tB' (G : Gx) (k : Bool) (es : Es) : TE := fun σ H Q => ∃ ρ ts vs, Conf G.K G.F ρ ts σ vs H ∧ PostR G ts σ vs (evalB k es ρ) fun t ρ' => ∀ v H', Conf G.K G.F ρ' (t :: ts) σ (v :: vs) H' → Q v H'
def tTs (G : Gx) (k : Bool) (es : Ts) : TT := fun σ H Q => ∃ ρ ts vs, Conf G.K G.F ρ ts σ vs H ∧ PostR G ts σ vs (evalTs k es ρ) fun b ρ' => ∀ H', Conf G.K G.F ρ' ts σ vs H' → Q b H'
def tO (G : Gx) (o : O) : TO := fun σ H Q => ∃ ρ ts vs, Conf G.K G.F ρ ts σ vs H ∧ PostR G ts σ vs (evalO o ρ) fun i ρ' => ∀ H', Conf G.K G.F ρ' ts σ vs H' → Q i H'
inductive ArR (K : Fw) (S : Hp) (σ : St) : Ar → V → Prop
  | val {v : V} {d : D} : Rp K S v d → ArR K S σ (.val d) v
  | io {i : Nat} {v : V} : σ[i]? = some (some v) → ArR K S σ (.io i) v
inductive ArRs (K : Fw) (S : Hp) (σ : St) : List Ar → List V → Prop
  | nil : ArRs K S σ [] []
  | cons {a : Ar} {v : V} {as : List Ar} {vs : List V} : ArR K S σ a v → ArRs K S σ as vs → ArRs K S σ (a :: as) (v :: vs)
def ConfA (G : Gx) (ρ : Rho) (rs : List Ar) (ts : List Tm) (σ : St) (ws vs : List V) (H : Hp) : Prop := ∃ S as bs, Cf G.K G.F S ρ ts σ vs H as bs ∧ ArRs G.K S σ rs ws
def tAs (G : Gx) (as : As) : TA := fun σ H Q => ∃ ρ ts vs, Conf G.K G.F ρ ts σ vs H ∧ PostR G ts σ vs (evalAs as ρ) fun rs ρ' => ∀ ws H', ConfA G ρ' rs ts σ ws vs H' → Q ws H'

/-- built-in names that no module shadows -/
def bltNames : List Str := ["len", "int", "abs", "max", "min", "list", "tuple", "sum", "all", "any", "str", "isinstance", "bool", "range", "enumerate", "zip", "sorted", "dict", "set", "reversed", "ValueError"]
/-- the context is that of a suite that holds this exception -/
def XaOk (X : Cx) (c : Xa) : Prop := ∃ (X0 : Cx) (o : Obj) (pn : List (Addr × Obj)), X = X0.suite c.a ((c.a, o) :: pn) ∧ Zc c.cls c.dd o ∧ (∃ fv, o.data = .fields fv) ∧ X.mg c.c = some c.cls
/-- the context fits the names and the frame's proof -/
structure Fit (X : Cx) (N : List Str) (sc : Scope) (G : Gx) : Prop where
  hN : X.N = N
  nd : X.N.Nodup
  sc : X.env.scope = sc
  un : X.A.units + 66 < cLine
  K : G.K = kx X
  mg : G.mg = X.mg
  tk : Takes X G.W
  bn : ∀ x ∈ bltNames, X.mg x = none
  xa : X.calm = false → ∀ c, G.F.xa = some c → XaOk X c

theorem Fit.sqt {X : Cx} {N : List Str} {sc : Scope} {G : Gx} (f : Fit X N sc G) {H : Hp} {a : Addr} {xs : List V} (h : SqT G.K H a xs) : SqT X.K H a xs := by rw [f.K] at h; exact h
theorem Fit.sql {X : Cx} {N : List Str} {sc : Scope} {G : Gx} (f : Fit X N sc G) {H : Hp} {a : Addr} {xs : List V} (h : SqL G.K H a xs) : SqL X.K H a xs := by rw [f.K] at h; exact h
theorem PE.imp {X : Cx} {e : Expr} {t t' : TE} (h : PE X e t) (hi : ∀ σ H Q, t' σ H Q → t σ H Q) : PE X e t' := ⟨fun pins s σ H Q I q => h.run pins s σ H Q I (hi σ H Q q)⟩
theorem PT.imp {X : Cx} {e : Expr} {t t' : TT} (h : PT X e t) (hi : ∀ σ H Q, t' σ H Q → t σ H Q) : PT X e t' := ⟨fun pins s σ H Q I q => h.run pins s σ H Q I (hi σ H Q q)⟩
theorem PA.imp {X : Cx} {e : List Expr} {t t' : TA} (h : PA X e t) (hi : ∀ σ H Q, t' σ H Q → t σ H Q) : PA X e t' := ⟨fun pos pins s σ H Q I q => h.run pos pins s σ H Q I (hi σ H Q q)⟩

/-! ### names -/
def nameOk (N : List Str) (sc : Scope) (i : Nat) (x : Str) : Bool :=
  decide (N[i]? = some x) && (match sc.names.lookup x with | some .local => true | some .cell => true | some .free => true | _ => false) && !(x == ("__debug__" : Str)) && !(x == ("__classdict__" : Str))
theorem nameOk_iff {N : List Str} {sc : Scope} {i : Nat} {x : Str} (h : nameOk N sc i x = true) : N[i]? = some x ∧ Vis sc x ∧ (x == ("__debug__" : Str)) = false ∧ (x == ("__classdict__" : Str)) = false := by
  unfold nameOk at h
  simp only [Bool.and_eq_true, decide_eq_true_eq, Bool.not_eq_true'] at h
  obtain ⟨⟨⟨h1, h2⟩, h3⟩, h4⟩ := h
  refine ⟨h1, ?_, h3, h4⟩
  unfold Vis
  split at h2
  · exact .inl (by assumption)
  · exact .inr (.inl (by assumption))
  · exact .inr (.inr (by assumption))
  · cases h2
def glOk (sc : Scope) (x : Str) : Bool := decide (sc.names.lookup x = some .globalImplicit) && !(x == ("__debug__" : Str)) && !(x == ("__name__" : Str))
theorem glOk_iff {sc : Scope} {x : Str} (h : glOk sc x = true) : sc.names.lookup x = some .globalImplicit ∧ (x == ("__debug__" : Str)) = false ∧ x ≠ "__name__" := by
  unfold glOk at h
  simp only [Bool.and_eq_true, decide_eq_true_eq, Bool.not_eq_true'] at h
  exact ⟨h.1.1, h.1.2, by simpa using h.2⟩
section
variable {X : Cx} {N : List Str} {sc : Scope} {G : Gx} {pos : Pos}
theorem Fit.gl (f : Fit X N sc G) {x : Str} (h : sc.names.lookup x = some .globalImplicit) : Gl X x := by
  show X.env.scope.names.lookup x = _
  rw [f.sc]; exact h

theorem s_var (f : Fit X N sc G) {i : Nat} {x : Str} (h : nameOk N sc i x = true) : PE X (.Name x pos) (tE G (.var i)) := by
  obtain ⟨h1, h2, h3, h4⟩ := nameOk_iff h
  refine PE.imp (pe_var (i := i) (by rw [f.hN]; exact h1) (by rw [f.sc]; exact h2) h3 h4) fun σ H Q ⟨ρ, ts, vs, ⟨S, as, bs, c⟩, p⟩ => ?_
  unfold evalE at p
  split at p
  · rename_i d e
    obtain ⟨o, _, _, _, g1, g2, _⟩ := c.slots.get e
    cases g2 with
    | sh r => exact ⟨_, g1, p _ _ ⟨S, as, bs, c.push r⟩⟩
  · rename_i d e
    obtain ⟨o, _, _, _, g1, g2, _⟩ := c.slots.get e
    cases g2 with
    | ow r => exact ⟨_, g1, p _ _ ⟨S, as, bs, c.pushBr g1⟩⟩
  · rename_i d e
    obtain ⟨o, _, _, _, g1, g2, _⟩ := c.slots.get e
    cases g2 with
    | io r => exact ⟨_, g1, p _ _ ⟨S, as, bs, c.pushBr g1⟩⟩
  · exact p.elim
def cstOk (d : D) (c : Const) : Bool := match d, c with
  | .int i, .int j => decide (i = j)
  | .bool a, .bool b => decide (a = b)
  | .none, .none => true
  | .str x, .str y => decide (x = y)
  | _, _ => false
theorem s_cst {d : D} {c : Const} {k : Nat} (h : cstOk d c = true) : PE X (.Constant c k pos) (tE G (.cst d)) := by
  unfold cstOk at h
  split at h
  · cases of_decide_eq_true h
    exact PE.imp pe_int fun σ H Q ⟨ρ, ts, vs, ⟨S, as, bs, c⟩, p⟩ => p _ _ ⟨S, as, bs, c.push (.int _)⟩
  · cases of_decide_eq_true h
    exact PE.imp pe_bl fun σ H Q ⟨ρ, ts, vs, ⟨S, as, bs, c⟩, p⟩ => p _ _ ⟨S, as, bs, c.push (.bl _)⟩
  · exact PE.imp pe_non fun σ H Q ⟨ρ, ts, vs, ⟨S, as, bs, c⟩, p⟩ => p _ _ ⟨S, as, bs, c.push .non⟩
  · cases of_decide_eq_true h
    exact PE.imp pe_str fun σ H Q ⟨ρ, ts, vs, ⟨S, as, bs, c⟩, p⟩ => p _ _ ⟨S, as, bs, c.push (.str _)⟩
  · cases h
/-- a module's constant -/
def GvOk (K : Fw) (mg : Str → Option Value) (x : Str) (d : D) : Prop := ∃ u v, mg x = some u ∧ RelV v u ∧ ∀ S, Rp K S v d
theorem s_gv (f : Fit X N sc G) {x : Str} {d : D} (h : glOk sc x = true) (hv : GvOk (kx X) X.mg x d) : PE X (.Name x pos) (tE G (.gv x d)) := by
  obtain ⟨h1, h2, _⟩ := glOk_iff h
  obtain ⟨u, v, hm, r, hr⟩ := hv
  exact PE.imp (pe_glob (f.gl h1) hm r h2) fun σ H Q ⟨ρ, ts, vs, ⟨S, as, bs, c⟩, p⟩ => p _ _ ⟨S, as, bs, c.push (by rw [f.K]; exact hr S)⟩

/-! ### operators -/
variable {a b c l r : Expr} {ea eb ec : E}
theorem kont_of {K : Fw} {F : Frm} {S H : Hp} {ρ : Rho} {ts : List Tm} {σ : St} {vs : List V} {as bs : List Addr} {own : Bool} {d : D} {Q : VK} (c : Cf K F S ρ ts σ vs H as bs)
    (h : ∀ v H', Conf K F ρ (mkT own d :: ts) σ (v :: vs) H' → Q v H') : Kont K H S (own, d) Q := fun w H' e r => h w H' (c.res e r)
theorem op2_post {us : List Tm} {σ : St} {ws : List V} {t u : Tm} {ρ : Rho} {f : D → D → Option (Bool × D)} {Q : Tm → Rho → Prop} (p : PostR G us σ ws (op2 f t u ρ) Q) :
    ∃ a b own d, t.get ρ = some a ∧ u.get ρ = some b ∧ f a b = some (own, d) ∧ Q (mkT own d) ρ := by
  unfold op2 at p
  split at p
  · rename_i a b h1 h2
    unfold giveT at p
    split at p
    · exact ⟨a, b, _, _, h1, h2, by assumption, p⟩
    · exact p.elim
  · exact p.elim
theorem op1_post {us : List Tm} {σ : St} {ws : List V} {t : Tm} {ρ : Rho} {f : D → Option (Bool × D)} {Q : Tm → Rho → Prop} (p : PostR G us σ ws (op1 f t ρ) Q) :
    ∃ a own d, t.get ρ = some a ∧ f a = some (own, d) ∧ Q (mkT own d) ρ := by
  unfold op1 at p
  split at p
  · rename_i a h1
    unfold giveT at p
    split at p
    · exact ⟨a, _, _, h1, by assumption, p⟩
    · exact p.elim
  · exact p.elim
/-- two operands, then an operation -/
theorem two_of {R : R2} {σ : St} {H : Hp} {Q : VK} {f : D → D → Option (Bool × D)}
    (hr : ∀ (S : Hp) (x y : V) (a b : D) (t : Bool × D) (H : Hp), Ext S H → TopR G.K H S x a → TopR G.K H S y b → f a b = some t → Kont G.K H S t Q → R x y H Q)
    (h : ∃ ρ ts vs, Conf G.K G.F ρ ts σ vs H ∧ PostR G ts σ vs ((evalE ea ρ).bind fun t ρ1 => (evalE eb ρ1).bind fun u ρ2 => op2 f t u ρ2) fun t ρ' => ∀ v H', Conf G.K G.F ρ' (t :: ts) σ (v :: vs) H' → Q v H') :
    tOp R (tE G ea) (tE G eb) σ H Q := by
  obtain ⟨ρ, ts, vs, c, p⟩ := h
  refine ⟨ρ, ts, vs, c, p.bind.mono fun t ρ1 p1 v H1 c1 => ⟨ρ1, t :: ts, v :: vs, c1, p1.bind.weak.mono fun u ρ2 p2 w H2 c2 => ?_⟩⟩
  obtain ⟨a, b, own, d, g1, g2, g3, g4⟩ := op2_post p2
  obtain ⟨S, as, bs, c2⟩ := c2
  obtain ⟨cs, c3⟩ := c2.drop
  obtain ⟨cs', c4⟩ := c3.drop
  exact hr S v w a b (own, d) H2 c2.sub (c2.top2 g1) (c2.top g2) g3 (kont_of c4 g4)
def bopOk (o : BOp) (op : Operator) : Bool := decide (opOf o = op)
theorem s_bin (f : Fit X N sc G) {o : BOp} {op : Operator} (h : bopOk o op = true) (ha : PE X l (tE G ea)) (hb : PE X r (tE G eb)) : PE X (.BinOp l op r pos) (tE G (.bin o ea eb)) := by
  cases of_decide_eq_true h
  refine PE.imp (pe_op (op_bin o) ha hb) fun σ H Q q => ?_
  unfold tE evalE at q
  exact two_of (fun S x y a b t H h1 h2 h3 h4 h5 => ⟨S, a, b, t, h1, f.K ▸ h2, f.K ▸ h3, h4, f.K ▸ h5⟩) q
def copOk (o : COp) (op : CmpOp) : Bool := decide (cmpOf o = op)
theorem cmpB_some {o : COp} {a b : D} {t : Bool × D} (h : cmpB o a b = some t) : ∃ k, cmpD o a b = some k ∧ t = (false, .bool k) := by
  unfold cmpB at h
  obtain ⟨k, h1, h2⟩ := Option.map_eq_some_iff.mp h
  exact ⟨k, h1, h2.symm⟩
theorem s_cmp (f : Fit X N sc G) {o : COp} {op : CmpOp} (h : copOk o op = true) (hm : behindInMarks op r = false) (ha : PE X l (tE G ea)) (hb : PE X r (tE G eb)) : PE X (.Compare l [op] [r] pos) (tE G (.cmp o ea eb)) := by
  cases of_decide_eq_true h
  refine PE.imp (pe_cmpR (op_cmp f.un o) ha hb hm) fun σ H Q q => ?_
  unfold tE evalE at q
  refine two_of (fun S x y a b t H h1 h2 h3 h4 h5 => ?_) q
  obtain ⟨k, h6, rfl⟩ := cmpB_some h4
  exact ⟨S, a, b, k, h1, f.K ▸ h2, f.K ▸ h3, h6, h5.val h1 (.bl _)⟩
theorem s_neg (f : Fit X N sc G) (ha : PE X a (tE G ea)) : PE X (.UnaryOp .USub a pos) (tE G (.neg ea)) := by
  refine PE.imp (pe_un un_neg' ha) fun σ H Q q => ?_
  unfold tE evalE at q
  obtain ⟨ρ, ts, vs, c, p⟩ := q
  refine ⟨ρ, ts, vs, c, p.bind.mono fun t ρ1 p1 v H1 c1 => ?_⟩
  obtain ⟨a, own, d, g1, g3, g4⟩ := op1_post p1
  obtain ⟨S, as, bs, c1⟩ := c1
  obtain ⟨cs, c3⟩ := c1.drop
  exact ⟨S, a, (own, d), c1.sub, f.K ▸ c1.top g1, g3, f.K ▸ kont_of c3 g4⟩
theorem s_not (f : Fit X N sc G) (ha : PE X a (tE G ea)) : PE X (.UnaryOp .Not a pos) (tE G (.not_ ea)) := by
  refine PE.imp (pe_not ha) fun σ H Q q => ?_
  unfold tE evalE at q
  obtain ⟨ρ, ts, vs, c, p⟩ := q
  refine ⟨ρ, ts, vs, c, p.bind.mono fun t ρ1 p1 v H1 c1 => ?_⟩
  obtain ⟨a, own, d, g1, g3, g4⟩ := op1_post p1
  obtain ⟨S, as, bs, c1⟩ := c1
  obtain ⟨cs, c3⟩ := c1.drop
  unfold notD at g3
  split at g3
  · cases g3
    cases Rp.bl_of (c1.top g1)
    exact ⟨_, rfl, kont_of c3 g4 _ _ (Same.refl _) ⟨S, Same.refl _, c3.sub, fun a o h => .inl ⟨o, h⟩, .bl _⟩⟩
  · cases g3
theorem s_idx (f : Fit X N sc G) (hp : PlainIx r) (ha : PE X l (tE G ea)) (hb : PE X r (tE G eb)) : PE X (.Subscript l r pos) (tE G (.idx ea eb)) := by
  refine PE.imp (pe_ix (ix_dat f.un) ha hb hp) fun σ H Q q => ?_
  unfold tE evalE at q
  exact two_of (fun S x y a b t H h1 h2 h3 h4 h5 => ⟨S, a, b, t, h1, f.K ▸ h2, f.K ▸ h3, h4, f.K ▸ h5⟩) q
theorem s_ite {et : T} (ht : PT X c (tT G et)) (ha : PE X a (tE G ea)) (hb : PE X b (tE G eb)) : PE X (.IfExp c a b pos) (tE G (.ite et ea eb)) := by
  refine PE.imp (pe_ifExp ht ha hb) fun σ H Q q => ?_
  unfold tE evalE at q
  obtain ⟨ρ, ts, vs, c, p⟩ := q
  refine ⟨ρ, ts, vs, c, p.bind.mono fun k ρ1 p1 H1 c1 => ?_⟩
  cases k with
  | true => exact ⟨ρ1, ts, vs, c1, p1⟩
  | false => exact ⟨ρ1, ts, vs, c1, p1⟩

theorem op2b_post {α : Type} {us : List Tm} {σ : St} {ws : List V} {t u : Tm} {ρ : Rho} {f : D → D → Option Bool} {g : Bool → Res α} {Q : α → Rho → Prop} (p : PostR G us σ ws (op2b f t u ρ g) Q) :
    ∃ a b k, t.get ρ = some a ∧ u.get ρ = some b ∧ f a b = some k ∧ PostR G us σ ws (g k) Q := by
  unfold op2b at p
  split at p
  · rename_i a b h1 h2
    split at p
    · exact ⟨a, b, _, h1, h2, by assumption, p⟩
    · exact p.elim
  · exact p.elim
/-- a value that is plain data: pushed -/
theorem Conf.bl {K : Fw} {F : Frm} {ρ : Rho} {ts : List Tm} {σ : St} {vs : List V} {H : Hp} {b : Bool} (c : Conf K F ρ ts σ vs H) : Conf K F ρ (.sh (.bool b) :: ts) σ (.bl b :: vs) H := by
  obtain ⟨S, as, bs, c⟩ := c
  exact ⟨S, as, bs, c.push (.bl b)⟩
theorem s_chn (f : Fit X N sc G) {o o' : COp} {op op' : CmpOp} (h : copOk o op = true) (h' : copOk o' op' = true) (hm : lastMarks [op, op'] [b, c] = false) (ha : PE X a (tE G ea)) (hb : PE X b (tE G eb)) (hc : PE X c (tE G ec)) :
    PE X (.Compare a [op, op'] [b, c] pos) (tE G (.chn o o' ea eb ec)) := by
  cases of_decide_eq_true h
  cases of_decide_eq_true h'
  refine PE.imp (pe_chain (op_cmp f.un o) (op_cmp f.un o') ha hb hc hm) fun σ H Q q => ?_
  unfold tE evalE at q
  obtain ⟨ρ, ts, vs, c, p⟩ := q
  refine ⟨ρ, ts, vs, c, p.bind.mono fun t ρ1 p1 v H1 c1 => ⟨ρ1, t :: ts, v :: vs, c1, p1.bind.weak.mono fun u ρ2 p2 w H2 c2 => ?_⟩⟩
  obtain ⟨a, b, k, g1, g2, g3, g4⟩ := op2b_post p2
  have c2' := c2
  obtain ⟨S, as, bs, c2⟩ := c2
  refine ⟨S, a, b, k, c2.sub, f.K ▸ c2.top2 g1, f.K ▸ c2.top g2, g3, k, rfl, ?_⟩
  cases k with
  | false => exact g4 _ _ c2'.drop.drop.bl
  | true =>
    have g4' : PostR G ts σ vs ((evalE ec ρ2).bind fun v ρ3 => op2 (cmpB o') u v ρ3) _ := g4
    refine ⟨ρ2, u :: t :: ts, w :: v :: vs, c2', g4'.bind.weak.weak.mono fun x ρ3 p3 y H3 c3 => ?_⟩
    obtain ⟨a', b', own, d, k1, k2, k3, k4⟩ := op2_post p3
    obtain ⟨k', h6, e6⟩ := cmpB_some k3
    cases e6
    have c3' : Conf G.K G.F ρ3 ts σ vs H3 := Conf.drop (Conf.drop (Conf.drop c3))
    obtain ⟨S, as, bs, c3⟩ := c3
    exact ⟨S, a', b', k', c3.sub, f.K ▸ c3.top2 k1, f.K ▸ c3.top k2, h6, k4 _ _ c3'.bl⟩
/-! tests -/
theorem s_tcmp (f : Fit X N sc G) {o : COp} {op : CmpOp} (h : copOk o op = true) (hm : behindInMarks op r = false) (ha : PE X l (tE G ea)) (hb : PE X r (tE G eb)) : PT X (.Compare l [op] [r] pos) (tT G (.cmp o ea eb)) := by
  cases of_decide_eq_true h
  refine PT.imp (pt_cmpR (op_cmp f.un o) ha hb hm) fun σ H Q q => ?_
  unfold tT evalT at q
  obtain ⟨ρ, ts, vs, c, p⟩ := q
  refine ⟨ρ, ts, vs, c, p.bind.mono fun t ρ1 p1 v H1 c1 => ⟨ρ1, t :: ts, v :: vs, c1, p1.bind.weak.mono fun u ρ2 p2 w H2 c2 => ?_⟩⟩
  obtain ⟨a, b, k, g1, g2, g3, g4⟩ := op2b_post p2
  have c2' := c2
  obtain ⟨S, as, bs, c2⟩ := c2
  exact ⟨S, a, b, k, c2.sub, f.K ▸ c2.top2 g1, f.K ▸ c2.top g2, g3, k, rfl, g4 _ c2'.drop.drop⟩
theorem s_tchn (f : Fit X N sc G) {o o' : COp} {op op' : CmpOp} (h : copOk o op = true) (h' : copOk o' op' = true) (hm : lastMarks [op, op'] [b, c] = false) (ha : PE X a (tE G ea)) (hb : PE X b (tE G eb)) (hc : PE X c (tE G ec)) :
    PT X (.Compare a [op, op'] [b, c] pos) (tT G (.chn o o' ea eb ec)) := by
  cases of_decide_eq_true h
  cases of_decide_eq_true h'
  refine PT.imp (pt_chain (op_cmp f.un o) (op_cmp f.un o') ha hb hc hm) fun σ H Q q => ?_
  unfold tT evalT at q
  obtain ⟨ρ, ts, vs, c, p⟩ := q
  refine ⟨ρ, ts, vs, c, p.bind.mono fun t ρ1 p1 v H1 c1 => ⟨ρ1, t :: ts, v :: vs, c1, p1.bind.weak.mono fun u ρ2 p2 w H2 c2 => ?_⟩⟩
  obtain ⟨a, b, k, g1, g2, g3, g4⟩ := op2b_post p2
  have c2' := c2
  obtain ⟨S, as, bs, c2⟩ := c2
  refine ⟨S, a, b, k, c2.sub, f.K ▸ c2.top2 g1, f.K ▸ c2.top g2, g3, k, rfl, ?_⟩
  cases k with
  | false => exact ⟨false, rfl, g4 _ c2'.drop.drop⟩
  | true =>
    have g4' : PostR G ts σ vs ((evalE ec ρ2).bind fun v ρ3 => op2b (cmpD o') u v ρ3 fun k' => .ok k' ρ3) _ := g4
    refine ⟨ρ2, u :: t :: ts, w :: v :: vs, c2', g4'.bind.weak.weak.mono fun x ρ3 p3 y H3 c3 => ?_⟩
    obtain ⟨a', b', k', k1, k2, k3, k4⟩ := op2b_post p3
    have c3' : Conf G.K G.F ρ3 ts σ vs H3 := Conf.drop (Conf.drop (Conf.drop c3))
    obtain ⟨S, as, bs, c3⟩ := c3
    exact ⟨S, a', b', k', c3.sub, f.K ▸ c3.top2 k1, f.K ▸ c3.top k2, k3, k', rfl, k4 _ c3'⟩
theorem truV {K : Fw} {H S : Hp} {x : V} {d : D} {k : Bool} (es : Ext S H) (t : TopR K H S x d) (h : truD d = some k) : TruV K x H k := by
  cases d with
  | none => cases h; cases Rp.non_of t; rfl
  | bool b => cases h; cases Rp.bl_of t; rfl
  | int b => cases h; cases Rp.int_of t; rfl
  | str b =>
    cases Rp.str_of t
    simp only [truD] at h
    split at h
    · rename_i hz
      cases h
      exact ⟨by rw [← line_eq]; exact hz, rfl⟩
    · cases h
  | list b =>
    cases h
    obtain ⟨p, xs, rfl, h, r⟩ := t
    refine .inl ⟨xs, h, ?_⟩
    cases r <;> rfl
  | tuple b =>
    cases h
    obtain ⟨p, xs, rfl, h, r⟩ := Rp.tup_of t
    refine .inr (.inl ⟨xs, es.t h, ?_⟩)
    cases r <;> rfl
  | dict b => cases h
theorem s_tru (f : Fit X N sc G) (he : ∀ whole, isTrue a X.env whole = (do let v ← whole; standAt a.pos; holding [v] (truthy v))) (ha : PE X a (tE G ea)) : PT X a (tT G (.tru ea)) := by
  refine PT.imp (pt_truth ha he) fun σ H Q q => ?_
  unfold tT evalT at q
  obtain ⟨ρ, ts, vs, c, p⟩ := q
  refine ⟨ρ, ts, vs, c, p.bind.mono fun t ρ1 p1 v H1 c1 => ?_⟩
  unfold truOf at p1
  split at p1
  · rename_i d hd
    split at p1
    · rename_i k hk
      have c1' := c1
      obtain ⟨S, as, bs, c1⟩ := c1
      exact ⟨k, truV c1.sub (f.K ▸ c1.top hd) hk, p1 _ c1'.drop⟩
    · exact p1.elim
  · exact p1.elim
theorem s_tnot {et : T} (ht : PT X a (tT G et)) : PT X (.UnaryOp .Not a pos) (tT G (.not_ et)) := by
  refine PT.imp (pt_not ht) fun σ H Q q => ?_
  unfold tT evalT at q
  obtain ⟨ρ, ts, vs, c, p⟩ := q
  exact ⟨ρ, ts, vs, c, p.bind.mono fun k ρ1 p1 H1 c1 => p1 _ c1⟩
theorem s_ts1 {op : BoolOp} {k : Bool} {et : T} (hk : op = if k then .And else .Or) (ht : PT X a (tT G et)) : PW X (.BoolOp op [a] pos) (tTs G k (.cons et .nil)) := by
  have h : PW X (.BoolOp op [a] pos) (tT G et) := by
    subst hk
    cases k with
    | true => exact pw_and1 ht
    | false => exact pw_or1 ht
  exact ⟨fun wh pins s σ H Q I ⟨ρ, ts, vs, c, p⟩ => h.run wh pins s σ H Q I ⟨ρ, ts, vs, c, by unfold evalTs at p; exact p⟩⟩
theorem s_ts2 {op : BoolOp} {k : Bool} {et et' : T} {er : Ts} {rest : List Expr} (hk : op = if k then .And else .Or) (ht : PT X a (tT G et)) (hr : PW X (.BoolOp op (b :: rest) pos) (tTs G k (.cons et' er))) :
    PW X (.BoolOp op (a :: b :: rest) pos) (tTs G k (.cons et (.cons et' er))) := by
  subst hk
  cases k with
  | true =>
    refine ⟨fun wh pins s σ H Q I ⟨ρ, ts, vs, c, p⟩ => (pw_and ht hr).run wh pins s σ H Q I ⟨ρ, ts, vs, c, ?_⟩⟩
    unfold evalTs at p
    refine p.bind.mono fun k' ρ1 p1 H1 c1 => ?_
    cases k' with
    | true => exact ⟨ρ1, ts, vs, c1, p1⟩
    | false => exact p1 _ c1
  | false =>
    refine ⟨fun wh pins s σ H Q I ⟨ρ, ts, vs, c, p⟩ => (pw_or ht hr).run wh pins s σ H Q I ⟨ρ, ts, vs, c, ?_⟩⟩
    unfold evalTs at p
    refine p.bind.mono fun k' ρ1 p1 H1 c1 => ?_
    cases k' with
    | true => exact p1 _ c1
    | false => exact ⟨ρ1, ts, vs, c1, p1⟩
theorem s_tbool {op : BoolOp} {k : Bool} {es : Ts} {xs : List Expr} (h : PW X (.BoolOp op xs pos) (tTs G k es)) : PT X (.BoolOp op xs pos) (tT G (.bool k es)) := by
  refine PT.imp h.pt fun σ H Q ⟨ρ, ts, vs, c, p⟩ => ⟨ρ, ts, vs, c, by unfold evalT at p; exact p⟩
/-! and, or as values -/
theorem s_b1 {op : BoolOp} {k : Bool} (ha : PE X a (tE G ea)) : PE X (.BoolOp op [a] pos) (tB' G k (.cons ea .nil)) := by
  refine PE.imp (pe_one ha) fun σ H Q ⟨ρ, ts, vs, c, p⟩ => ⟨ρ, ts, vs, c, by unfold evalB at p; exact p⟩
theorem s_b2 {op : BoolOp} {k : Bool} {er : Es} {rest : List Expr} (hk : op = if k then .And else .Or) (ha : PE X a (tE G ea)) (hr : PE X (.BoolOp op (b :: rest) pos) (tB' G k (.cons eb er))) :
    PE X (.BoolOp op (a :: b :: rest) pos) (tB' G k (.cons ea (.cons eb er))) := by
  have go : ∀ σ H Q, tB' G k (.cons ea (.cons eb er)) σ H Q → tE G ea σ H fun x H1 => ∃ c, x = .bl c ∧ if c = k then tB' G k (.cons eb er) σ H1 Q else Q (.bl c) H1 := by
    rintro σ H Q ⟨ρ, ts, vs, c, p⟩
    unfold evalB at p
    refine ⟨ρ, ts, vs, c, p.bind.mono fun t ρ1 p1 v H1 c1 => ?_⟩
    split at p1
    · rename_i d hd
      have c1' := c1
      obtain ⟨S, as, bs, c1⟩ := c1
      cases Rp.bl_of (c1.top hd)
      refine ⟨d, rfl, ?_⟩
      split at p1
      · rename_i e
        rw [if_pos e]
        exact ⟨ρ1, ts, vs, c1'.drop, p1⟩
      · rename_i e
        rw [if_neg e]
        exact p1 _ _ c1'.drop.bl
    · exact p1.elim
  subst hk
  cases k with
  | true =>
    refine PE.imp (pe_and ha hr) fun σ H Q q => ?_
    obtain ⟨ρ, ts, vs, c, p⟩ := go σ H Q q
    refine ⟨ρ, ts, vs, c, p.mono fun t ρ' h v H' c' => ?_⟩
    obtain ⟨c, e, z⟩ := h v H' c'
    refine ⟨c, e, ?_⟩
    cases c with
    | true => exact z
    | false => exact z
  | false =>
    refine PE.imp (pe_or ha hr) fun σ H Q q => ?_
    obtain ⟨ρ, ts, vs, c, p⟩ := go σ H Q q
    refine ⟨ρ, ts, vs, c, p.mono fun t ρ' h v H' c' => ?_⟩
    obtain ⟨c, e, z⟩ := h v H' c'
    refine ⟨c, e, ?_⟩
    cases c with
    | true => exact z
    | false => exact z
theorem s_bool {op : BoolOp} {k : Bool} {es : Es} {xs : List Expr} (h : PE X (.BoolOp op xs pos) (tB' G k es)) : PE X (.BoolOp op xs pos) (tE G (.bool k es)) :=
  PE.imp h fun σ H Q ⟨ρ, ts, vs, c, p⟩ => ⟨ρ, ts, vs, c, by unfold evalE at p; exact p⟩
/-! lists of expressions -/
theorem s_es0 : PA X [] (tEs G .nil) := PA.imp pa_nil fun σ H Q ⟨ρ, ts, vs, c, p⟩ => p [] H c rfl
theorem s_es1 {es : Es} {xs : List Expr} (ha : PE X a (tE G ea)) (hr : PA X xs (tEs G es)) (hs : starEach (a :: xs) X.env = (false, eval a X.env) :: starEach xs X.env) : PA X (a :: xs) (tEs G (.cons ea es)) := by
  refine PA.imp (pa_cons ha hr hs) fun σ H Q ⟨ρ, ts, vs, c, p⟩ => ?_
  unfold evalEs at p
  refine ⟨ρ, ts, vs, c, p.bind.mono fun t ρ1 p1 v H1 c1 => ⟨ρ1, t :: ts, v :: vs, c1, p1.bind.weak.mono fun us ρ2 p2 ws H2 c2 hl => p2 (v :: ws) H2 ?_ (by simp [hl])⟩⟩
  simpa using c2
theorem take_post {α : Type} {us : List Tm} {σ : St} {ws : List V} {t : Tm} {ρ : Rho} {f : D → Rho → Res α} {Q : α → Rho → Prop} (p : PostR G us σ ws ((take t ρ).bind f) Q) :
    ∃ d ρ', t.get ρ = some d ∧ t.esc ρ = some ρ' ∧ PostR G us σ ws (f d ρ') Q := by
  unfold take at p
  split at p
  · exact ⟨_, _, by assumption, by assumption, p⟩
  · exact p.elim
theorem Cf.took {K : Fw} {F : Frm} {S H : Hp} {ρ ρ' : Rho} {t : Tm} {ts : List Tm} {σ : St} {v : V} {vs : List V} {as bs : List Addr} {d : D} (c : Cf K F S ρ (t :: ts) σ (v :: vs) H as bs) (hd : t.get ρ = some d) (he : t.esc ρ = some ρ') :
    ∃ S' as' bs', Ext S S' ∧ Cf K F S' ρ' ts σ vs H as' bs' ∧ Rp K S' v d := by
  obtain ⟨S', as', bs', e, c'⟩ := c.esc hd he
  have h : Rp K S' v d := by
    cases c'.tms with
    | cons h r =>
      cases h with
      | sh h => exact h
  obtain ⟨cs, c2⟩ := c'.drop
  exact ⟨S', as', cs, e, c2, h⟩
/-- all temporaries are shared and taken off -/
theorem takeAll_conf {K : Fw} {F : Frm} {σ : St} {H : Hp} : ∀ (us : List Tm) (ws : List V) {ts : List Tm} {vs : List V} {ρ ρ' : Rho} {ds : List D}, us.length = ws.length → Conf K F ρ (us.reverse ++ ts) σ (ws.reverse ++ vs) H →
    takeAll us ρ = .ok ds ρ' → ∃ S as bs, Cf K F S ρ' ts σ vs H as bs ∧ Rps K S ws ds
  | [], [], ts, vs, ρ, ρ', ds, _, ⟨S, as, bs, c⟩, e => by
    cases e
    exact ⟨S, as, bs, c, .nil⟩
  | t :: us, w :: ws, ts, vs, ρ, ρ', ds, hl, c, e => by
    unfold takeAll at e
    have c' : Conf K F ρ (us.reverse ++ (t :: ts)) σ (ws.reverse ++ (w :: vs)) H := by simpa using c
    cases e1 : takeAll us ρ with
    | ok ds1 ρ1 =>
      rw [e1] at e
      obtain ⟨S, as, bs, c1, r1⟩ := takeAll_conf us ws (by simpa using hl) c' e1
      cases e2 : take t ρ1 with
      | ok d ρ2 =>
        have e' : (take t ρ1).bind (fun d ρ2 => (.ok (d :: ds1) ρ2 : Res (List D))) = .ok ds ρ' := e
        rw [e2] at e'
        cases e'
        unfold take at e2
        split at e2
        · cases e2
          rename_i h1 h2
          obtain ⟨S2, as2, bs2, ex, c2, r2⟩ := c1.took h1 h2
          exact ⟨S2, as2, bs2, c2, .cons r2 (r1.ext ex)⟩
        · cases e2
      | exc x ρ2 =>
        have e' : (take t ρ1).bind (fun d ρ2 => (.ok (d :: ds1) ρ2 : Res (List D))) = .ok ds ρ' := e
        rw [e2] at e'
        cases e'
      | bad =>
        have e' : (take t ρ1).bind (fun d ρ2 => (.ok (d :: ds1) ρ2 : Res (List D))) = .ok ds ρ' := e
        rw [e2] at e'
        cases e'
    | exc x ρ1 => rw [e1] at e; cases e
    | bad => rw [e1] at e; cases e
  | [], _ :: _, _, _, _, _, _, hl, _, _ => by cases hl
  | _ :: _, [], _, _, _, _, _, hl, _, _ => by cases hl
theorem take_noexc {t : Tm} {ρ ρ' : Rho} {x : Ex} : take t ρ ≠ .exc x ρ' := fun e => by
  unfold take at e
  split at e <;> cases e
theorem takeAll_noexc : ∀ {us : List Tm} {ρ ρ' : Rho} {x : Ex}, takeAll us ρ ≠ .exc x ρ'
  | [], _, _, _, e => by cases e
  | t :: us, ρ, ρ', x, e => by
    unfold takeAll at e
    cases e1 : takeAll us ρ with
    | ok ds1 ρ1 =>
      rw [e1] at e
      have e' : (take t ρ1).bind (fun d ρ2 => (.ok (d :: ds1) ρ2 : Res (List D))) = .exc x ρ' := e
      cases e2 : take t ρ1 with
      | ok d ρ2 => rw [e2] at e'; cases e'
      | exc x ρ2 => exact take_noexc e2
      | bad => rw [e2] at e'; cases e'
    | exc x ρ1 => exact takeAll_noexc e1
    | bad => rw [e1] at e; cases e
theorem takeAll_post {α : Type} {us ts : List Tm} {σ : St} {ws vs : List V} {ρ : Rho} {H : Hp} {f : List D → Rho → Res α} {Q : α → Rho → Prop} (hl : us.length = ws.length) (c : Conf G.K G.F ρ (us.reverse ++ ts) σ (ws.reverse ++ vs) H)
    (p : PostR G ts σ vs ((takeAll us ρ).bind f) Q) : ∃ S as bs ds ρ', Cf G.K G.F S ρ' ts σ vs H as bs ∧ Rps G.K S ws ds ∧ PostR G ts σ vs (f ds ρ') Q := by
  cases e : takeAll us ρ with
  | ok ds ρ' =>
    rw [e] at p
    obtain ⟨S, as, bs, c', r⟩ := takeAll_conf us ws hl c e
    exact ⟨S, as, bs, ds, ρ', c', r, p⟩
  | exc x ρ' => exact absurd e takeAll_noexc
  | bad => rw [e] at p; exact p.elim
theorem s_tup {es : Es} {xs : List Expr} {k : Nat} (h : PA X xs (tEs G es)) : PE X (.Tuple xs k pos) (tE G (.tup es)) := by
  refine PE.imp (pe_tup h) fun σ H Q ⟨ρ, ts, vs, c, p⟩ => ?_
  unfold evalE at p
  refine ⟨ρ, ts, vs, c, p.bind.mono fun us ρ1 p1 ws H1 c1 hl => ?_⟩
  obtain ⟨S, as, bs, ds, ρ', c2, r2, p2⟩ := takeAll_post hl.symm c1 p1
  split at p2
  · rename_i hz
    exact ⟨by rw [← line_eq, r2.length]; exact hz, fun q hq => (kont_of c2 (own := false) p2).tup c2.sub r2 hq⟩
  · exact p2.elim
theorem s_lst {es : Es} {xs : List Expr} (h : PA X xs (tEs G es)) : PE X (.List xs pos) (tE G (.lst es)) := by
  refine PE.imp (pe_lst h) fun σ H Q ⟨ρ, ts, vs, c, p⟩ => ?_
  unfold evalE at p
  refine ⟨ρ, ts, vs, c, p.bind.mono fun us ρ1 p1 ws H1 c1 hl => ?_⟩
  obtain ⟨S, as, bs, ds, ρ', c2, r2, p2⟩ := takeAll_post hl.symm c1 p1
  split at p2
  · rename_i hz
    exact ⟨by rw [← line_eq, r2.length]; exact hz, fun q hq => (kont_of c2 (own := true) p2).lst r2 hq⟩
  · exact p2.elim
/-! slices -/
theorem s_o0 : PO X none (tO G .no) := ⟨fun pins s σ H Q I ⟨ρ, ts, vs, c, p⟩ => po_none.run pins s σ H Q I (p H c)⟩
theorem s_o1 (ha : PE X a (tE G ea)) : PO X (some a) (tO G (.so ea)) := by
  refine ⟨fun pins s σ H Q I ⟨ρ, ts, vs, c, p⟩ => (po_some ha).run pins s σ H Q I ⟨ρ, ts, vs, c, ?_⟩⟩
  unfold evalO at p
  refine p.bind.mono fun t ρ1 p1 v H1 c1 => ?_
  split at p1
  · rename_i i hd
    have c1' := c1
    obtain ⟨S, as, bs, c1⟩ := c1
    cases Rp.int_of (c1.top hd)
    exact ⟨i, rfl, p1 _ c1'.drop⟩
  · exact p1.elim
theorem s_slc (f : Fit X N sc G) {lo hi : Option Expr} {ol oh : O} {p2 : Pos} (ha : PE X a (tE G ea)) (hl : PO X lo (tO G ol)) (hh : PO X hi (tO G oh)) : PE X (.Subscript a (.Slice lo hi none p2) pos) (tE G (.slc ea ol oh)) := by
  refine PE.imp (pe_slice sl_dat ha hl hh) fun σ H Q ⟨ρ, ts, vs, c, p⟩ => ?_
  unfold evalE at p
  refine ⟨ρ, ts, vs, c, p.bind.mono fun t ρ1 p1 v H1 c1 => ⟨ρ1, t :: ts, v :: vs, c1, p1.bind.weak.mono fun l ρ2 p2 H2 c2 => ⟨ρ2, t :: ts, v :: vs, c2, p2.bind.weak.mono fun h ρ3 p3 H3 c3 => ?_⟩⟩⟩
  obtain ⟨a, own, d, g1, g3, g4⟩ := op1_post p3
  obtain ⟨S, as, bs, c3⟩ := c3
  obtain ⟨cs, c4⟩ := c3.drop
  exact ⟨S, a, (own, d), c3.sub, f.K ▸ c3.top g1, g3, f.K ▸ kont_of c4 g4⟩
end
end Ev

-- Ev6
/-! Ev6: built-ins, isinstance, calls of defs. -/
namespace Ev
open PySem L2

section
variable {K : Fw} {F : Frm} {H H' S S' : Hp} {σ : St} {ρ ρ' : Rho} {as bs : List Addr}
theorem SlRs.map : ∀ {ρ ρ' : Rho} {σ : St} {as : List Addr}, SlRs K F H S ρ σ as → ρ'.length = ρ.length →
    (∀ (i : Nat) (s : Sl) (o : Option V) (ys : List Addr), ρ[i]? = some s → σ[i]? = some o → (∀ a ∈ ys, a ∈ as) → SlR K F H S s o ys → ∃ s', ρ'[i]? = some s' ∧ SlR K F H' S' s' o ys) → SlRs K F H' S' ρ' σ as
  | _, ρ', _, _, .nil, hl, _ => by
    have e : ρ' = [] := List.eq_nil_of_length_eq_zero (by simpa using hl)
    subst e
    exact .nil
  | _, [], _, _, .cons _ _, hl, _ => by simp at hl
  | _, s' :: ρ', _, _, .cons h r, hl, hm => by
    obtain ⟨s2, e, h2⟩ := hm 0 _ _ _ rfl rfl (fun a ha => List.mem_append_left _ ha) h
    cases e
    exact .cons h2 (SlRs.map r (by simpa using hl) fun i s o ys h1 h3 h4 h5 => by
      obtain ⟨s3, e, h6⟩ := hm (i + 1) s o ys (by simpa using h1) (by simpa using h3) (fun a ha => List.mem_append_right _ (h4 a ha)) h5
      exact ⟨s3, by simpa using e, h6⟩)
theorem exU {x : Ex} {o : Option V} {ys : List Addr} (h : SlR K F H S (.ex x) o ys) : ys = [] := by
  cases h
  rfl
theorem SlRs.inj : ∀ {ρ : Rho} {σ : St} {as : List Addr}, SlRs K F H S ρ σ as → as.Nodup → ∀ {i j : Nat} {s s' : Sl} {o o' : Option V} {ys zs : List Addr} {a : Addr}, ρ[i]? = some s → σ[i]? = some o → SlR K F H S s o ys → ρ[j]? = some s' → σ[j]? = some o' → SlR K F H S s' o' zs → a ∈ ys → a ∈ zs → i = j := by
  have uniq : ∀ {s : Sl} {o : Option V} {ys zs : List Addr}, SlR K F H S s o ys → SlR K F H S s o zs → ys = zs := fun {s o ys zs} h h' => by
    cases h with
    | un => cases h'; rfl
    | sh _ => cases h'; rfl
    | ow _ _ => cases h'; rfl
    | io _ _ => cases h'; rfl
    | ex _ _ _ => exact (exU h').symm
  have mem : ∀ {ρ : Rho} {σ : St} {as : List Addr}, SlRs K F H S ρ σ as → ∀ {i : Nat} {s : Sl} {o : Option V} {ys : List Addr} {a : Addr}, ρ[i]? = some s → σ[i]? = some o → SlR K F H S s o ys → a ∈ ys → a ∈ as := by
    intro ρ σ as h
    induction h with
    | nil => intro i s o ys a h1; simp at h1
    | cons h r ih =>
      intro i s o ys a h1 h2 h3 h4
      cases i with
      | zero =>
        simp at h1 h2
        subst h1 h2
        rw [uniq h3 h] at h4
        exact List.mem_append_left _ h4
      | succ i => exact List.mem_append_right _ (ih (by simpa using h1) (by simpa using h2) h3 h4)
  intro ρ σ as h
  induction h with
  | nil => intro _ i j s s' o o' ys zs a h1; simp at h1
  | cons h r ih =>
    intro nd i j s s' o o' ys zs a h1 h2 h3 k1 k2 k3 hy hz
    obtain ⟨n1, n2, n3⟩ := List.nodup_append.mp nd
    cases i with
    | zero =>
      cases j with
      | zero => rfl
      | succ j =>
        simp at h1 h2
        subst h1 h2
        rw [uniq h3 h] at hy
        exact absurd rfl (n3 a hy a (mem r (by simpa using k1) (by simpa using k2) k3 hz))
    | succ i =>
      cases j with
      | zero =>
        simp at k1 k2
        subst k1 k2
        rw [uniq k3 h] at hz
        exact absurd rfl (n3 a hz a (mem r (by simpa using h1) (by simpa using h2) h3 hy))
      | succ j => exact congrArg (· + 1) (ih n2 (by simpa using h1) (by simpa using h2) h3 (by simpa using k1) (by simpa using k2) k3 hy hz)
theorem SlRs.mem {i : Nat} {s : Sl} (h : SlRs K F H S ρ σ as) (e : ρ[i]? = some s) : ∃ o ys, σ[i]? = some o ∧ SlR K F H S s o ys ∧ ∀ a ∈ ys, a ∈ as := by
  obtain ⟨o, xs, ys, zs, h1, h2, h3⟩ := h.get e
  exact ⟨o, ys, h1, h2, fun a ha => by rw [h3]; simp [ha]⟩
end

/-! ### what a def promises -/
inductive ArgR (K : Fw) (H S : Hp) : List Bool → List V → List D → List Addr → Prop
  | nil : ArgR K H S [] [] [] []
  | val {v : V} {d : D} {bs : List Bool} {vs : List V} {ds : List D} {as : List Addr} : Rp K S v d → ArgR K H S bs vs ds as → ArgR K H S (false :: bs) (v :: vs) (d :: ds) as
  | io {a : Addr} {d : D} {bs : List Bool} {vs : List V} {ds : List D} {as : List Addr} : OwnAt K H S a d → ArgR K H S bs vs ds as → ArgR K H S (true :: bs) (.ref a :: vs) (d :: ds) (a :: as)
inductive IoR (K : Fw) (H S : Hp) : List Addr → List D → Prop
  | nil : IoR K H S [] []
  | cons {a : Addr} {d : D} {as : List Addr} {ds : List D} : OwnAt K H S a d → IoR K H S as ds → IoR K H S (a :: as) (d :: ds)
structure After (K : Fw) (H S : Hp) (as : List Addr) (H' S' : Hp) (ios : List D) : Prop where
  e1 : Ext S S'
  e2 : Ext S' H'
  new : ∀ a o, S' a = some o → (∃ o, S a = some o) ∨ H a = none
  keep : ∀ a o, H a = some o → a ∉ as → H' a = some o
  ios : IoR K H' S' as ios
def ResV (K : Fw) (H H' S' : Hp) (own : Bool) (d : D) (v : V) : Prop := match own with
  | true => ∃ a, v = .ref a ∧ H a = none ∧ S' a = none ∧ OwnAt K H' S' a d
  | false => Rp K S' v d
def SpF (K : Fw) (mg : Str → Option Value) (ios : List Bool) (m : Fn) : Sp := fun vs H Q E => ∃ (S : Hp) (ds : List D) (as : List Addr), Ext S H ∧ ArgR K H S ios vs ds as ∧ as.Nodup ∧ (∀ a ∈ as, S a = none) ∧
  match m ds with
  | .bad => False
  | .ok own d r => ∀ v H' S', After K H S as H' S' r → ResV K H H' S' own d v → Q v H'
  | .exc x r => ∀ cls dd H' S', After K H S as H' S' r → ExR K mg S' x cls dd → E cls dd H'

/-- the module, as calls see it -/
structure Md where
  prog : Program
  w : World
  K : Fw
  mg : Str → Option Value
  base : Heap
  A : Around
def _root_.L2.Cx.md (X : Cx) : Md := ⟨X.prog, X.w, (kx X), X.mg, X.base, X.A⟩
/-- a def of the module that keeps its promise -/
def KnF (M : Md) (f : Str) (m : Fn) (ios : List Bool) (dv : List D) : Prop := ∃ (a : Addr) (fd : FuncData) (ps : List Str) (k : Nat) (dvs : List V) (dw : List Value), FnOk M.prog M.w M.K M.mg M.base (L2.CX M.prog M.w) k a fd ps (SpF M.K M.mg ios m) ∧ Room k M.A ∧ M.mg f = some (.ref a) ∧ PySem.W.keepIn M.K (.ref a) = true ∧
  Binds M.K fd ps dw ∧ Vals dvs dw ∧ (∀ S, Rps M.K S dvs dv) ∧ True

theorem IoR.length {K : Fw} {H S : Hp} : ∀ {as : List Addr} {ds : List D}, IoR K H S as ds → as.length = ds.length
  | _, _, .nil => rfl
  | _, _, .cons _ r => congrArg (· + 1) (IoR.length r)
def falses (n : Nat) : List Bool := List.replicate n false
def asIos : As → List Bool
  | .nil => []
  | .val _ as => false :: asIos as
  | .io _ as => true :: asIos as
def arIosB : List Ar → List Bool
  | [] => []
  | .val _ :: as => false :: arIosB as
  | .io _ :: as => true :: arIosB as

section
variable {K : Fw} {F : Frm} {H H' S S' : Hp} {σ : St} {ρ ρ' : Rho} {ts : List Tm} {vs : List V} {asl bs as : List Addr} {ws : List V} {rs : List Ar} {ds : List D}
theorem putIo_len {i : Nat} {d : D} (h : putIo ρ i d = some ρ') : ρ'.length = ρ.length := by
  unfold putIo at h
  split at h
  · cases h; simp
  · cases h; simp
  · cases h
theorem putIo_at {i : Nat} {d : D} (h : putIo ρ i d = some ρ') : (∃ d0, ρ[i]? = some (.ow d0) ∧ ρ'[i]? = some (.ow d)) ∨ ∃ k d0, ρ[i]? = some (.io k d0) ∧ ρ'[i]? = some (.io k d) := by
  unfold putIo at h
  split at h
  · rename_i d0 e
    cases h
    have hi := (List.getElem?_eq_some_iff.mp e).1
    exact .inl ⟨d0, e, by rw [List.getElem?_set_self hi]⟩
  · rename_i k d0 e
    cases h
    have hi := (List.getElem?_eq_some_iff.mp e).1
    exact .inr ⟨k, d0, e, by rw [List.getElem?_set_self hi]⟩
  · cases h
theorem putIo_ne {i j : Nat} {d : D} (h : putIo ρ i d = some ρ') (hj : i ≠ j) : ρ'[j]? = ρ[j]? := by
  unfold putIo at h
  split at h
  · cases h; rw [List.getElem?_set_ne hj]
  · cases h; rw [List.getElem?_set_ne hj]
  · cases h
theorem putIos_len : ∀ {is : List Nat} {ds : List D} {ρ ρ' : Rho}, putIos ρ is ds = some ρ' → ρ'.length = ρ.length
  | [], [], _, _, h => by cases h; rfl
  | i :: is, d :: ds, ρ, ρ', h => by
    obtain ⟨ρ1, h1, h2⟩ := Option.bind_eq_some_iff.mp (show (putIo ρ i d).bind (fun ρ' => putIos ρ' is ds) = some ρ' from h)
    rw [putIos_len h2, putIo_len h1]
  | [], _ :: _, _, _, h => by cases h
  | _ :: _, [], _, _, h => by cases h
theorem putIos_out : ∀ {is : List Nat} {ds : List D} {ρ ρ' : Rho} {j : Nat}, putIos ρ is ds = some ρ' → j ∉ is → ρ'[j]? = ρ[j]?
  | [], [], _, _, _, h, _ => by cases h; rfl
  | i :: is, d :: ds, ρ, ρ', j, h, hj => by
    obtain ⟨ρ1, h1, h2⟩ := Option.bind_eq_some_iff.mp (show (putIo ρ i d).bind (fun ρ' => putIos ρ' is ds) = some ρ' from h)
    rw [putIos_out h2 (fun q => hj (List.mem_cons_of_mem _ q)), putIo_ne h1 (fun q => hj (by rw [q]; exact List.mem_cons_self))]
  | [], _ :: _, _, _, _, h, _ => by cases h
  | _ :: _, [], _, _, _, h, _ => by cases h
/-- the slots behind a call: owned objects as the callee left them -/
theorem slots_after : ∀ {is : List Nat} {as : List Addr} {ios : List D} {ρ ρ' : Rho} {H S : Hp}, SlRs K F H S ρ σ asl → asl.Nodup → is.Nodup → Ext S S' →
    (∀ j : Nat, is[j]? = none ∨ ∃ (i : Nat) (a : Addr) (s : Sl), is[j]? = some i ∧ as[j]? = some a ∧ ρ[i]? = some s ∧ SlR K F H S s (some (V.ref a)) [a] ∧ σ[i]? = some (some (V.ref a))) → is.length = as.length →
    IoR K H' S' as ios → (∀ a ∈ asl, a ∉ as → ∀ o, H a = some o → H' a = some o) → putIos ρ is ios = some ρ' → SlRs K F H' S' ρ' σ asl := by
  intro is as ios ρ ρ' H S h nd ndi e hi hl r hk hp
  refine h.map (putIos_len hp) fun i s o ys h1 h2 hy h3 => ?_
  by_cases hm : i ∈ is
  · -- one of the changed
    have key : ∀ {is : List Nat} {as : List Addr} {ios : List D} {ρ ρ1 : Rho}, is.Nodup → i ∈ is → (∀ j : Nat, is[j]? = none ∨ ∃ (i' : Nat) (a : Addr) (s : Sl), is[j]? = some i' ∧ as[j]? = some a ∧ ρ[i']? = some s ∧ SlR K F H S s (some (V.ref a)) [a] ∧ σ[i']? = some (some (V.ref a))) →
        IoR K H' S' as ios → putIos ρ is ios = some ρ1 → ρ[i]? = some s → ∃ s', ρ1[i]? = some s' ∧ SlR K F H' S' s' o ys := by
      intro is
      induction is with
      | nil => intro as ios ρ ρ1 _ hm; simp at hm
      | cons i0 is ih =>
        intro as ios ρ ρ1 nd hm hi r hp h1
        cases ios with
        | nil => cases hp
        | cons d0 ios =>
          obtain ⟨ρ2, g1, g2⟩ := Option.bind_eq_some_iff.mp (show (putIo ρ i0 d0).bind (fun ρ' => putIos ρ' is ios) = some ρ1 from hp)
          cases r with
          | cons ow r =>
            rename_i a0 as
            obtain ⟨n1, n2⟩ := List.nodup_cons.mp nd
            by_cases e0 : i = i0
            · subst e0
              rcases hi 0 with q | ⟨i', a, s', q1, q2, q3, q4, q5⟩
              · simp at q
              · simp at q1 q2
                subst q1 q2
                rw [h1] at q3
                cases q3
                rw [h2] at q5
                cases q5
                rw [putIos_out g2 n1]
                rcases putIo_at g1 with ⟨d1, z1, z2⟩ | ⟨k, d1, z1, z2⟩
                · rw [h1] at z1
                  cases z1
                  refine ⟨_, z2, ?_⟩
                  cases h3 with
                  | ow _ n => exact .ow ow n
                · rw [h1] at z1
                  cases z1
                  refine ⟨_, z2, ?_⟩
                  cases h3 with
                  | io _ n => exact .io ow n
            · have hm' : i ∈ is := by
                rcases List.mem_cons.mp hm with q | q
                · exact absurd q e0
                · exact q
              refine ih n2 hm' (fun j => ?_) r g2 (by rw [putIo_ne g1 (Ne.symm e0)]; exact h1)
              rcases hi (j + 1) with q | ⟨i', a, s', q1, q2, q3, q4, q5⟩
              · exact .inl (by simpa using q)
              · have ne : i0 ≠ i' := by
                  rintro rfl
                  exact n1 (List.mem_of_getElem? (by simpa using q1))
                exact .inr ⟨i', a, s', by simpa using q1, by simpa using q2, by rw [putIo_ne g1 ne]; exact q3, q4, q5⟩
    exact key ndi hm hi r hp h1
  · rw [putIos_out hp hm]
    refine ⟨s, h1, h3.mono e fun a ha ob hob => hk a (hy a ha) (fun q => ?_) ob hob⟩
    obtain ⟨j, hj⟩ := List.getElem?_of_mem q
    rcases hi j with z | ⟨i', a', s', q1, q2, q3, q4, q5⟩
    · have l1 := (List.getElem?_eq_some_iff.mp hj).1
      rw [List.getElem?_eq_none_iff] at z
      omega
    · rw [hj] at q2
      cases q2
      have : i = i' := h.inj nd h1 h2 h3 q3 q5 q4 ha (by simp)
      subst this
      exact hm (List.mem_of_getElem? q1)
end

section
variable {K : Fw} {F : Frm} {H H' S S' : Hp} {σ : St} {ρ ρ' : Rho} {ts : List Tm} {vs : List V} {asl bs as : List Addr} {ws : List V} {ds : List D}
theorem own_of {i : Nat} {d : D} (h : SlRs K F H S ρ σ asl) (e : ρ[i]? = some (.ow d) ∨ ∃ k, ρ[i]? = some (.io k d)) : ∃ a s, ρ[i]? = some s ∧ σ[i]? = some (some (V.ref a)) ∧ SlR K F H S s (some (V.ref a)) [a] ∧ OwnAt K H S a d ∧ a ∈ asl := by
  rcases e with e | ⟨k, e⟩
  · obtain ⟨o, ys, h1, h2, h3⟩ := h.mem e
    cases h2 with
    | ow q n => exact ⟨_, _, e, h1, .ow q n, q, h3 _ (by simp)⟩
  · obtain ⟨o, ys, h1, h2, h3⟩ := h.mem e
    cases h2 with
    | io q n => exact ⟨_, _, e, h1, .io q n, q, h3 _ (by simp)⟩
theorem args_of : ∀ {rs : List Ar} {ws : List V} {ds : List D}, SlRs K F H S ρ σ asl → asl.Nodup → ArRs K S σ rs ws → arGet ρ rs = some ds → (arIos rs).Nodup →
    ∃ as, ArgR K H S (arIosB rs) ws ds as ∧ as.Nodup ∧ (∀ a ∈ as, a ∈ asl) ∧ (arIos rs).length = as.length ∧
      ∀ j : Nat, (arIos rs)[j]? = none ∨ ∃ (i : Nat) (a : Addr) (s : Sl), (arIos rs)[j]? = some i ∧ as[j]? = some a ∧ ρ[i]? = some s ∧ SlR K F H S s (some (V.ref a)) [a] ∧ σ[i]? = some (some (V.ref a))
  | [], _, _, h, nd, .nil, e, _ => by
    cases e
    exact ⟨[], .nil, List.nodup_nil, by simp, rfl, fun j => .inl (by simp [arIos])⟩
  | .val d :: rs, _, _, h, nd, .cons (.val r) rr, e, nd2 => by
    obtain ⟨ds, h1, rfl⟩ := Option.map_eq_some_iff.mp (show (arGet ρ rs).map (d :: ·) = some _ from e)
    obtain ⟨as, g1, g2, g3, g4, g5⟩ := args_of h nd rr h1 nd2
    exact ⟨as, .val r g1, g2, g3, g4, g5⟩
  | .io i :: rs, _, ds0, h, nd, .cons (.io r) rr, e, nd2 => by
    obtain ⟨n1, n2⟩ := List.nodup_cons.mp (show (i :: arIos rs).Nodup from nd2)
    have key : ∃ d ds, (ρ[i]? = some (.ow d) ∨ ∃ k, ρ[i]? = some (.io k d)) ∧ arGet ρ rs = some ds ∧ ds0 = d :: ds := by
      unfold arGet at e
      split at e
      · rename_i d q
        obtain ⟨ds, h1, h2⟩ := Option.map_eq_some_iff.mp e
        exact ⟨d, ds, .inl q, h1, h2.symm⟩
      · rename_i k d q
        obtain ⟨ds, h1, h2⟩ := Option.map_eq_some_iff.mp e
        exact ⟨d, ds, .inr ⟨k, q⟩, h1, h2.symm⟩
      · cases e
    obtain ⟨d, ds, q, h1, rfl⟩ := key
    obtain ⟨as, g1, g2, g3, g4, g5⟩ := args_of h nd rr h1 n2
    obtain ⟨a, s, k1, k2, k3, k4, k5⟩ := own_of h q
    rw [k2] at r
    cases r
    refine ⟨a :: as, .io k4 g1, List.nodup_cons.mpr ⟨fun hm => ?_, g2⟩, fun b hb => ?_, by simp [arIos, g4], fun j => ?_⟩
    · obtain ⟨j, hj⟩ := List.getElem?_of_mem hm
      rcases g5 j with z | ⟨i', a', s', q1, q2, q3, q4, q5⟩
      · have l1 := (List.getElem?_eq_some_iff.mp hj).1
        rw [List.getElem?_eq_none_iff] at z
        omega
      · rw [hj] at q2
        cases q2
        have : i = i' := h.inj (a := a) nd k1 k2 k3 q3 q5 q4 (by simp) (by simp)
        subst this
        exact n1 (List.mem_of_getElem? q1)
    · rcases List.mem_cons.mp hb with rfl | q
      · exact k5
      · exact g3 b q
    · cases j with
      | zero => exact .inr ⟨i, a, s, rfl, rfl, k1, k3, k2⟩
      | succ j =>
        rcases g5 j with z | ⟨i', a', s', q1, q2, q3, q4, q5⟩
        · exact .inl (by simpa [arIos] using z)
        · exact .inr ⟨i', a', s', by simpa [arIos] using q1, by simpa using q2, q3, q4, q5⟩
/-- the frame behind a call -/
theorem Cf.called {is : List Nat} {ios : List D} (c : Cf K F S ρ ts σ vs H asl bs) (ha : ∀ a ∈ as, a ∈ asl) (hl : is.length = as.length) (nd : is.Nodup)
    (hi : ∀ j : Nat, is[j]? = none ∨ ∃ (i : Nat) (a : Addr) (s : Sl), is[j]? = some i ∧ as[j]? = some a ∧ ρ[i]? = some s ∧ SlR K F H S s (some (V.ref a)) [a] ∧ σ[i]? = some (some (V.ref a)))
    (aft : After K H S as H' S' ios) (hp : putIos ρ is ios = some ρ') : Cf K F S' ρ' ts σ vs H' asl bs := by
  obtain ⟨n1, n2, n3⟩ := List.nodup_append.mp c.nd
  have hown : ∀ a ∈ as, F.Hin a = none ∨ a ∈ F.io := fun a ham => by
    obtain ⟨j, hj⟩ := List.getElem?_of_mem ham
    rcases hi j with z | ⟨i', a', s', q1, q2, q3, q4, q5⟩
    · have l1 := (List.getElem?_eq_some_iff.mp hj).1
      rw [List.getElem?_eq_none_iff] at z
      omega
    · rw [hj] at q2
      cases q2
      cases q4 with
      | ow _ n => exact .inl n
      | io _ n => exact .inr (List.mem_of_getElem? n)
  have hthere : ∀ a ∈ as, ∃ o, H' a = some o := by
    have : ∀ {as : List Addr} {ios : List D}, IoR K H' S' as ios → ∀ a ∈ as, ∃ o, H' a = some o := by
      intro as ios r
      induction r with
      | nil => intro a ha; simp at ha
      | cons ow r ih =>
        intro a ha
        rcases List.mem_cons.mp ha with rfl | q
        · exact ow.there
        · exact ih a q
    exact this aft.ios
  refine ⟨aft.e2, c.s0.trans aft.e1, fun a o h => ?_, fun a o h hn => ?_, fun a hm => ?_, ?_, c.tms.mono aft.e1 fun a hb o ho => aft.keep a o ho fun q => n3 a (ha a q) a hb rfl, c.nd, fun a hm => ?_⟩
  · rcases aft.new a o h with ⟨o', q⟩ | q
    · exact c.new a o' q
    · exact .inr (c.newHin q)
  · refine aft.keep a o (c.keep a o h hn) fun q => ?_
    rcases hown a q with z | z
    · rw [h] at z; cases z
    · exact hn z
  · by_cases q : a ∈ as
    · exact hthere a q
    · obtain ⟨o, ho⟩ := c.iod a hm
      exact ⟨o, aft.keep a o ho q⟩
  · exact slots_after c.slots n1 nd aft.e1 hi hl aft.ios (fun a _ hn o ho => aft.keep a o ho hn) hp
  · cases q : S' a with
    | none => rfl
    | some o =>
      rcases aft.new a o q with ⟨o', z⟩ | z
      · rw [c.out a hm] at z; cases z
      · exact absurd hm (c.fresh z)
end

section
variable {X : Cx} {N : List Str} {sc : Scope} {G : Gx} {pos p : Pos} {a b : Expr} {ea eb : E}
theorem PostR.monoEq {α : Type} {ts : List Tm} {σ : St} {vs : List V} {r : Res α} {Q Q' : α → Rho → Prop} (p : PostR G ts σ vs r Q) (h : ∀ a ρ, r = .ok a ρ → Q a ρ → Q' a ρ) : PostR G ts σ vs r Q' := by
  cases r with
  | ok a ρ => exact h a ρ rfl p
  | exc x ρ => exact p
  | bad => exact p
theorem bind_ok {α β : Type} {r : Res α} {f : α → Rho → Res β} {b : β} {ρ' : Rho} (h : r.bind f = .ok b ρ') : ∃ a ρ, r = .ok a ρ ∧ f a ρ = .ok b ρ' := by
  cases r with
  | ok a ρ => exact ⟨a, ρ, rfl, h⟩
  | exc x ρ => cases h
  | bad => cases h
theorem evalAs_ios : ∀ {as : As} {ρ ρ' : Rho} {rs : List Ar}, evalAs as ρ = .ok rs ρ' → arIosB rs = asIos as
  | .nil, ρ, ρ', rs, h => by
    unfold evalAs at h
    cases h
    rfl
  | .val e as, ρ, ρ', rs, h => by
    unfold evalAs at h
    obtain ⟨t, ρ1, _, h⟩ := bind_ok h
    obtain ⟨d, ρ2, _, h⟩ := bind_ok h
    obtain ⟨rs', ρ3, h1, h⟩ := bind_ok h
    cases h
    show false :: arIosB rs' = false :: asIos as
    rw [evalAs_ios h1]
  | .io i as, ρ, ρ', rs, h => by
    unfold evalAs at h
    split at h
    · obtain ⟨rs', ρ3, h1, h⟩ := bind_ok h
      cases h
      show true :: arIosB rs' = true :: asIos as
      rw [evalAs_ios h1]
    · obtain ⟨rs', ρ3, h1, h⟩ := bind_ok h
      cases h
      show true :: arIosB rs' = true :: asIos as
      rw [evalAs_ios h1]
    · cases h
theorem ArgR.ext {K : Fw} {H S : Hp} : ∀ {bs : List Bool} {vs : List V} {ds : List D} {as : List Addr} {ws : List V} {es : List D}, ArgR K H S bs vs ds as → Rps K S ws es → ArgR K H S (bs ++ falses es.length) (vs ++ ws) (ds ++ es) as
  | _, _, _, _, _, _, .nil, .nil => .nil
  | _, _, _, _, _, _, .nil, .cons h r => .val h (ArgR.ext .nil r)
  | _, _, _, _, _, _, .val h r, q => .val h (ArgR.ext r q)
  | _, _, _, _, _, _, .io h r, q => .io h (ArgR.ext r q)

/-- what is asked of a def that is called -/
theorem call_red (f : Fit X N sc G) {m : Fn} {dv : List D} {as : As} {dvs : List V} (hd : ∀ S, Rps (kx X) S dvs dv) {x : Str} {σ : St} {H : Hp} {Q : VK} (q : tE G (.call x m dv as) σ H Q) :
    tCallSD (SpF (kx X) X.mg (asIos as ++ falses dv.length) m) dvs (WE G.W) (tAs G as) σ H Q := by
  obtain ⟨ρ, ts, vs, c, p⟩ := q
  unfold evalE at p
  refine ⟨ρ, ts, vs, c, p.bind.monoEq fun rs ρ1 e p1 ws H1 ⟨S, asl, bs, c1, ar⟩ => ?_⟩
  unfold doCall at p1
  split at p1
  · rename_i nd
    split at p1
    · exact p1.elim
    · rename_i ds hds
      obtain ⟨n1, n2, n3⟩ := List.nodup_append.mp c1.nd
      obtain ⟨as', g1, g2, g3, g4, g5⟩ := args_of c1.slots n1 ar hds nd
      have g1' := g1.ext (f.K ▸ hd S)
      rw [evalAs_ios e] at g1'
      refine ⟨S, ds ++ dv, as', c1.sub, f.K ▸ g1', g2, fun a ha => c1.out a (List.mem_append_left _ (g3 a ha)), ?_⟩
      split at p1
      · exact p1.elim
      · rename_i own d ios hm
        try rw [hm]
        split at p1
        · rename_i ρ2 hp
          intro v H' S' aft r
          have aft' : After G.K H1 S as' H' S' ios := f.K ▸ aft
          have c2 := c1.called g3 g4 nd g5 aft' hp
          cases own with
          | true =>
            obtain ⟨a, rfl, ha, hs, ow⟩ := r
            have ow' : OwnAt G.K H' S' a d := f.K ▸ ow
            refine p1 _ _ ⟨S', asl, a :: bs, c2.sub, c2.s0, c2.new, c2.keep, c2.iod, c2.slots, (.cons (as := [a]) (.ow ow' (c1.newHin ha)) c2.tms), ?_, fun b hb => ?_⟩
            · exact (List.perm_middle (a := a) (l₁ := asl) (l₂ := bs)).nodup_iff.mpr (List.nodup_cons.mpr ⟨c1.fresh ha, c2.nd⟩)
            · simp only [List.mem_append, List.mem_cons] at hb
              rcases hb with z | rfl | z
              · exact c2.out b (List.mem_append_left _ z)
              · exact hs
              · exact c2.out b (List.mem_append_right _ z)
          | false => exact p1 _ _ ⟨S', asl, bs, c2.push (f.K ▸ r)⟩
        · exact p1.elim
      · rename_i x ios hm
        try rw [hm]
        split at p1
        · rename_i ρ2 hp
          intro cls dd H' S' aft r
          have aft' : After G.K H1 S as' H' S' ios := f.K ▸ aft
          have c2 := c1.called g3 g4 nd g5 aft' hp
          exact p1 cls dd H' ⟨S', asl, bs, c2, by rw [f.K, f.mg]; exact r⟩
        · exact p1.elim
  · exact p1.elim
theorem s_call (f : Fit X N sc G) {m : Fn} {dv : List D} {as : As} {x : Str} {e : Expr} {es : List Expr} (hg : glOk sc x = true) (hk : KnF X.md x m (asIos as ++ falses dv.length) dv) (ha : PA X (e :: es) (tAs G as))
    (he : starEach (e :: es) X.env = (false, eval e X.env) :: starEach es X.env) (hpl : (backTo pos (starEach es X.env)).any (·.1) = false) : PE X (.Call (.Name x p) (e :: es) [] pos) (tE G (.call x m dv as)) := by
  obtain ⟨h1, h2, _⟩ := glOk_iff hg
  obtain ⟨a, fd, ps, k, dvs, dw, F, hr, hm, kp, hb, hd, hrp, _⟩ := hk
  exact PE.imp (pe_callSD F hr (f.gl h1) hm kp hb hd (fun σ => passAt f.tk σ) ha h2 he hpl) fun σ H Q q => call_red f hrp q
theorem s_call0 (f : Fit X N sc G) {m : Fn} {dv : List D} {x : Str} (hg : glOk sc x = true) (hk : KnF X.md x m (asIos .nil ++ falses dv.length) dv) : PE X (.Call (.Name x p) [] [] pos) (tE G (.call x m dv .nil)) := by
  obtain ⟨h1, h2, _⟩ := glOk_iff hg
  obtain ⟨a, fd, ps, k, dvs, dw, F, hr, hm, kp, hb, hd, hrp, _⟩ := hk
  refine ⟨fun pins s σ H Q I q => ?_⟩
  obtain ⟨ρ, ts, vs, ⟨S, as, bs, c⟩, p⟩ := call_red f hrp q
  have p' := p [] H ⟨S, as, bs, c, .nil⟩
  refine wpAny_Call_Name_kw (ld_glob I (f.gl h1) hm ?_ h2)
  exact PySem.W.callWith_K0 I.kIn kp (run_fnSD (us := []) F hr hb hd (passAt f.tk σ) I .nil p')
/-! arguments -/
theorem s_as0 : PA X [] (tAs G .nil) := PA.imp pa_nil fun σ H Q ⟨ρ, ts, vs, ⟨S, as, bs, c⟩, p⟩ => p [] H ⟨S, as, bs, c, .nil⟩
theorem s_as1 {as : As} {xs : List Expr} (ha : PE X a (tE G ea)) (hr : PA X xs (tAs G as)) (hs : starEach (a :: xs) X.env = (false, eval a X.env) :: starEach xs X.env) : PA X (a :: xs) (tAs G (.val ea as)) := by
  refine PA.imp (pa_cons ha hr hs) fun σ H Q ⟨ρ, ts, vs, c, p⟩ => ?_
  unfold evalAs at p
  refine ⟨ρ, ts, vs, c, p.bind.mono fun t ρ1 p1 v H1 ⟨S, asl, bs, c1⟩ => ?_⟩
  obtain ⟨d, ρ2, h1, h2, p2⟩ := take_post p1
  obtain ⟨S', as', bs', e, c2⟩ := c1.esc h1 h2
  refine ⟨ρ2, .sh d :: ts, v :: vs, ⟨S', as', bs', c2⟩, p2.bind.weak.mono fun rs ρ3 p3 ws H3 ⟨S3, as3, bs3, c3, r3⟩ => ?_⟩
  have r : Rp G.K S3 v d := by
    cases c3.tms with
    | cons h _ =>
      cases h with
      | sh h => exact h
  obtain ⟨cs, c4⟩ := c3.drop
  exact p3 _ _ ⟨S3, as3, cs, c4, .cons (.val r) r3⟩
theorem s_as2 {as : As} {xs : List Expr} {i : Nat} {x : Str} {px : Pos} (f : Fit X N sc G) (h : nameOk N sc i x = true) (hr : PA X xs (tAs G as)) : PA X (.Name x px :: xs) (tAs G (.io i as)) := by
  obtain ⟨h1, h2, h3, h4⟩ := nameOk_iff h
  refine PA.imp (pa_cons (pe_var (i := i) (by rw [f.hN]; exact h1) (by rw [f.sc]; exact h2) h3 h4) hr rfl) fun σ H Q ⟨ρ, ts, vs, c, p⟩ => ?_
  unfold evalAs at p
  have go : ∀ d, (ρ[i]? = some (.ow d) ∨ ∃ k, ρ[i]? = some (.io k d)) → PostR G ts σ vs ((evalAs as ρ).bind fun rs ρ1 => .ok (.io i :: rs) ρ1) (fun rs ρ' => ∀ ws H', ConfA G ρ' rs ts σ ws vs H' → Q ws H') →
      tCons (tVar i) (tAs G as) σ H Q := fun d hd p => by
    obtain ⟨S, asl, bs, c1⟩ := c
    obtain ⟨a, s, k1, k2, k3, k4, k5⟩ := own_of c1.slots hd
    refine ⟨_, k2, ρ, ts, vs, ⟨S, asl, bs, c1⟩, p.bind.mono fun rs ρ3 p3 ws H3 ⟨S3, as3, bs3, c3, r3⟩ => ?_⟩
    exact p3 _ _ ⟨S3, as3, bs3, c3, .cons (.io k2) r3⟩
  split at p
  · rename_i d e
    exact go d (.inl e) p
  · rename_i k d e
    exact go d (.inr ⟨k, e⟩) p
  · exact p.elim

/-! built-ins -/
theorem getAll_top {K : Fw} {F : Frm} {S H : Hp} {σ : St} {ρ : Rho} {as : List Addr} : ∀ {us : List Tm} {ws : List V} {ts : List Tm} {vs : List V} {bs : List Addr} {ds : List D}, us.length = ws.length → Cf K F S ρ (us.reverse ++ ts) σ (ws.reverse ++ vs) H as bs → getAll ρ us = some ds → TopRs K H S ws ds ∧ ∃ cs, Cf K F S ρ ts σ vs H as cs
  | [], [], ts, vs, bs, ds, _, c, e => by
    cases e
    exact ⟨.nil, bs, c⟩
  | t :: us, w :: ws, ts, vs, bs, ds, hl, c, e => by
    have c' : Cf K F S ρ (us.reverse ++ (t :: ts)) σ (ws.reverse ++ (w :: vs)) H as bs := by simpa using c
    unfold getAll at e
    split at e
    · rename_i d ds' h1 h2
      cases e
      obtain ⟨r, cs, c2⟩ := getAll_top (by simpa using hl) c' h2
      obtain ⟨cs2, c3⟩ := c2.drop
      exact ⟨.cons (c2.top h1) r, cs2, c3⟩
    · cases e
  | [], _ :: _, _, _, _, _, hl, _, _ => by cases hl
  | _ :: _, [], _, _, _, _, hl, _, _ => by cases hl
theorem boot_bi (b : Bi) : bootBuiltins (biName b) = some (biVal b) := by
  cases b <;> decide +kernel
theorem s_bi (f : Fit X N sc G) (hc : X.calm = true) {bi : Bi} {es : Es} {e : Expr} {xs : List Expr} (hg : glOk sc (biName bi) = true) (hm : X.mg (biName bi) = none) (ha : PA X (e :: xs) (tEs G es))
    (he : starEach (e :: xs) X.env = (false, eval e X.env) :: starEach xs X.env) (hpl : (backTo pos (starEach xs X.env)).any (·.1) = false) : PE X (.Call (.Name (biName bi) p) (e :: xs) [] pos) (tE G (.bi bi es)) := by
  obtain ⟨h1, h2, h3⟩ := glOk_iff hg
  have red : ∀ σ H Q, tE G (.bi bi es) σ H Q → tCB (rBi (kx X) bi) (tEs G es) σ H Q := fun σ H Q ⟨ρ, ts, vs, c, q⟩ => by
    unfold evalE at q
    refine ⟨ρ, ts, vs, c, q.bind.mono fun us ρ1 p1 ws H1 ⟨S, as, bs, c1⟩ hl => ?_⟩
    unfold opN at p1
    split at p1
    · rename_i ds hds
      unfold giveT at p1
      split at p1
      · rename_i own d ho
        obtain ⟨r, cs, c2⟩ := getAll_top hl.symm c1 hds
        exact ⟨S, ds, (own, d), c1.sub, f.K ▸ r, ho, f.K ▸ kont_of c2 p1⟩
      · exact p1.elim
    · exact p1.elim
  have hb := boot_bi bi
  cases bi with
  | len => exact PE.imp (pe_callB (call_bi f.un hc .len) (f.gl h1) hm hb ha h3 h2 he hpl) red
  | int => exact PE.imp (pe_callTy (call_bi f.un hc .int) (f.gl h1) hm hb ha h3 h2 he hpl) red
  | abs => exact PE.imp (pe_callB (call_bi f.un hc .abs) (f.gl h1) hm hb ha h3 h2 he hpl) red
  | max2 => exact PE.imp (pe_callB (call_bi f.un hc .max2) (f.gl h1) hm hb ha h3 h2 he hpl) red
  | min2 => exact PE.imp (pe_callB (call_bi f.un hc .min2) (f.gl h1) hm hb ha h3 h2 he hpl) red
  | list => exact PE.imp (pe_callTy (call_bi f.un hc .list) (f.gl h1) hm hb ha h3 h2 he hpl) red
  | tuple => exact PE.imp (pe_callTy (call_bi f.un hc .tuple) (f.gl h1) hm hb ha h3 h2 he hpl) red
  | sum => exact PE.imp (pe_callB (call_bi f.un hc .sum) (f.gl h1) hm hb ha h3 h2 he hpl) red
  | all => exact PE.imp (pe_callB (call_bi f.un hc .all) (f.gl h1) hm hb ha h3 h2 he hpl) red
  | any => exact PE.imp (pe_callB (call_bi f.un hc .any) (f.gl h1) hm hb ha h3 h2 he hpl) red
  | str => exact PE.imp (pe_callTy (call_bi f.un hc .str) (f.gl h1) hm hb ha h3 h2 he hpl) red
  | srt => exact PE.imp (pe_callB (call_bi f.un hc .srt) (f.gl h1) hm hb ha h3 h2 he hpl) red
def tyName' : Ty → Str
  | .int => "int" | .bool => "bool" | .str => "str" | .tuple => "tuple" | .list => "list"
theorem boot_ty (t : Ty) : bootBuiltins (tyName' t) = some (.type (tyName t)) := by
  cases t <;> decide +kernel
theorem s_isi (f : Fit X N sc G) {ty : Ty} {p2 : Pos} (hg : glOk sc "isinstance" = true) (hm : X.mg "isinstance" = none) (hg2 : glOk sc (tyName' ty) = true) (hm2 : X.mg (tyName' ty) = none) (ha : PE X a (tE G ea))
    (hs : starEach [a, .Name (tyName' ty) p2] X.env = (false, eval a X.env) :: starEach [.Name (tyName' ty) p2] X.env) : PE X (.Call (.Name "isinstance" p) [a, .Name (tyName' ty) p2] [] pos) (tE G (.isi ty ea)) := by
  obtain ⟨h1, h2, h3⟩ := glOk_iff hg
  obtain ⟨k1, k2, k3⟩ := glOk_iff hg2
  refine PE.imp (pe_callB call_isiE (f.gl h1) hm (by decide +kernel) (pa_cons ha (pa_cons (pe_bltn (v := .ty (tyName ty)) (f.gl k1) hm2 (boot_ty ty) rfl k3 k2) pa_nil rfl) hs) h3 h2 hs rfl) fun σ H Q ⟨ρ, ts, vs, c, q⟩ => ?_
  unfold evalE at q
  refine ⟨ρ, ts, vs, c, q.bind.mono fun t ρ1 p1 v H1 c1 => ?_⟩
  obtain ⟨d, own, d', g1, g3, g4⟩ := op1_post p1
  obtain ⟨k, hk, e⟩ := Option.map_eq_some_iff.mp g3
  cases e
  have c1' := c1
  obtain ⟨S, as, bs, c1⟩ := c1
  exact ⟨v, .ty (tyName ty), _, _, k, rfl, .ty _, TopR.tyx c1.sub (f.K ▸ c1.top g1), kit_isi (K := kx X) hk, g4 _ _ c1'.drop.bl⟩
end
end Ev

-- Ev7
/-! Ev7: targets, what is walked. -/
namespace Ev
open PySem L2

/-! ### slots, wiped and cleared -/
theorem wipe_in {σ : St} {i : Nat} : ∀ {vs : List Nat}, i ∈ vs → i < σ.length → (wipe σ vs)[i]? = some none
  | v :: vs, h, hl => by
    unfold wipe
    by_cases e : v = i
    · subst e; rw [List.getElem?_set_self (by rw [wipe_length]; exact hl)]
    · rw [List.getElem?_set_ne e]
      exact wipe_in (by rcases List.mem_cons.mp h with q | q; exact absurd q.symm e; exact q) hl
theorem wipe_ge {σ : St} {i : Nat} {vs : List Nat} (h : σ.length ≤ i) : (wipe σ vs)[i]? = none := by
  rw [List.getElem?_eq_none_iff, wipe_length]; exact h
theorem wipe_eq {σ σ' : St} {ws : List Nat} (hl : σ'.length = σ.length) (h : ∀ j, j ∉ ws → σ'[j]? = σ[j]?) : wipe σ' ws = wipe σ ws := by
  apply List.ext_getElem?
  intro j
  by_cases hm : j ∈ ws
  · by_cases hj : j < σ.length
    · rw [wipe_in hm hj, wipe_in hm (by omega)]
    · rw [wipe_ge (by omega), wipe_ge (by omega)]
  · rw [wipe_out hm, wipe_out hm, h j hm]
theorem wipe_twice {σ : St} {ws : List Nat} : wipe (wipe σ ws) ws = wipe σ ws := wipe_eq (wipe_length σ ws) fun _ h => wipe_out h
theorem wipe_set {σ : St} {i : Nat} {x : Option V} {ws : List Nat} (h : i ∈ ws) : wipe (σ.set i x) ws = wipe σ ws :=
  wipe_eq (by simp) fun j hj => by rw [List.getElem?_set_ne]; rintro rfl; exact hj h
theorem clr_length (ρ : Rho) : ∀ vs : List Nat, (clr ρ vs).length = ρ.length
  | [] => rfl
  | v :: vs => by unfold clr; rw [List.length_set, clr_length ρ vs]
theorem clr_in {ρ : Rho} {i : Nat} : ∀ {vs : List Nat}, i ∈ vs → i < ρ.length → (clr ρ vs)[i]? = some .un
  | v :: vs, h, hl => by
    unfold clr
    by_cases e : v = i
    · subst e; rw [List.getElem?_set_self (by rw [clr_length]; exact hl)]
    · rw [List.getElem?_set_ne e]
      exact clr_in (by rcases List.mem_cons.mp h with q | q; exact absurd q.symm e; exact q) hl
theorem clr_out {ρ : Rho} {i : Nat} : ∀ {vs : List Nat}, i ∉ vs → (clr ρ vs)[i]? = ρ[i]?
  | [], _ => rfl
  | v :: vs, h => by
    unfold clr
    rw [List.getElem?_set_ne (fun e => h (by rw [e]; exact List.mem_cons_self))]
    exact clr_out fun m => h (List.mem_cons_of_mem _ m)
theorem rst_length (ρ ρ' : Rho) : ∀ vs : List Nat, (rst ρ ρ' vs).length = ρ'.length
  | [] => rfl
  | v :: vs => by unfold rst; rw [List.length_set, rst_length ρ ρ' vs]
theorem rst_in {ρ ρ' : Rho} {i : Nat} : ∀ {vs : List Nat}, i ∈ vs → i < ρ'.length → (rst ρ ρ' vs)[i]? = some (ρ[i]?.getD .un)
  | v :: vs, h, hl => by
    unfold rst
    by_cases e : v = i
    · subst e; rw [List.getElem?_set_self (by rw [rst_length]; exact hl)]
    · rw [List.getElem?_set_ne e]
      exact rst_in (by rcases List.mem_cons.mp h with q | q; exact absurd q.symm e; exact q) hl
theorem rst_out {ρ ρ' : Rho} {i : Nat} : ∀ {vs : List Nat}, i ∉ vs → (rst ρ ρ' vs)[i]? = ρ'[i]?
  | [], _ => rfl
  | v :: vs, h => by
    unfold rst
    rw [List.getElem?_set_ne (fun e => h (by rw [e]; exact List.mem_cons_self))]
    exact rst_out fun m => h (List.mem_cons_of_mem _ m)

section
variable {K : Fw} {F : Frm} {H H' S S' : Hp} {σ σ' : St} {ρ ρ' : Rho} {ts : List Tm} {vs : List V} {as bs : List Addr}
def NoBr (ts : List Tm) : Prop := ∀ t ∈ ts, ∀ i, t ≠ .br i
theorem TmRs.move : ∀ {ts : List Tm} {vs : List V} {as : List Addr}, TmRs K F H S σ ts vs as → NoBr ts → TmRs K F H S σ' ts vs as
  | _, _, _, .nil, _ => .nil
  | t :: ts, _, _, .cons h r, n => by
    refine .cons ?_ (TmRs.move r fun u hu => n u (List.mem_cons_of_mem _ hu))
    cases h with
    | sh r => exact .sh r
    | ow r z => exact .ow r z
    | br r => exact absurd rfl (n _ List.mem_cons_self _)
    | un => exact .un _
/-- some slots stay, others are plain now -/
theorem SlRs.repl : ∀ {ρ ρ' : Rho} {σ σ' : St} {as : List Addr}, SlRs K F H S ρ σ as → ρ'.length = ρ.length → σ'.length = σ.length →
    (∀ (i : Nat) (s s' : Sl) (o o' : Option V), ρ[i]? = some s → σ[i]? = some o → ρ'[i]? = some s' → σ'[i]? = some o' → (s' = s ∧ o' = o) ∨ SlR K F H S s' o' []) → ∃ as', SlRs K F H S ρ' σ' as' ∧ as'.Sublist as
  | _, [], _, [], _, .nil, _, _, _ => ⟨[], .nil, List.Sublist.refl _⟩
  | _, _ :: _, _, _, _, .nil, hl, _, _ => by simp at hl
  | _, _, _, _ :: _, _, .nil, _, hl, _ => by simp at hl
  | _, [], _, _, _, .cons _ _, hl, _, _ => by simp at hl
  | _, _, _, [], _, .cons _ _, _, hl, _ => by simp at hl
  | _, s' :: ρ', _, o' :: σ', _, .cons (as := xs) (bs := ys) h r, h1, h2, hp => by
    obtain ⟨as', g1, g2⟩ := SlRs.repl r (by simpa using h1) (by simpa using h2) fun i s s' o o' k1 k2 k3 k4 => hp (i + 1) s s' o o' (by simpa using k1) (by simpa using k2) (by simpa using k3) (by simpa using k4)
    rcases hp 0 _ _ _ _ rfl rfl rfl rfl with ⟨e1, e2⟩ | q
    · subst e1 e2
      exact ⟨xs ++ as', .cons h g1, List.Sublist.append (List.Sublist.refl _) g2⟩
    · exact ⟨[] ++ as', .cons q g1, List.Sublist.append (List.nil_sublist _) g2⟩
theorem Cf.slots' {ρ' : Rho} {ts' : List Tm} {σ' : St} {vs' : List V} {as' bs' : List Addr} (c : Cf K F S ρ ts σ vs H as bs) (h1 : SlRs K F H S ρ' σ' as') (h2 : TmRs K F H S σ' ts' vs' bs') (hs : (as' ++ bs').Sublist (as ++ bs)) : Cf K F S ρ' ts' σ' vs' H as' bs' :=
  ⟨c.sub, c.s0, c.new, c.keep, c.iod, h1, h2, c.nd.sublist hs, fun a ha => c.out a (hs.subset ha)⟩
theorem Cf.set {i : Nat} {d : D} {v : V} (c : Cf K F S ρ (.sh d :: ts) σ (v :: vs) H as bs) (n : NoBr ts) : ∃ as' bs', Cf K F S (ρ.set i (.sh d)) ts (σ.set i (some v)) vs H as' bs' := by
  cases h : c.tms with
  | cons h1 r =>
    rename_i xs ys
    cases h1 with
    | sh r1 =>
      obtain ⟨as', g1, g2⟩ := c.slots.repl (ρ' := ρ.set i (.sh d)) (σ' := σ.set i (some v)) (by simp) (by simp) fun j s s' o o' k1 k2 k3 k4 => by
        by_cases e : i = j
        · subst e
          rw [List.getElem?_set_self (List.getElem?_eq_some_iff.mp k1).1] at k3
          rw [List.getElem?_set_self (List.getElem?_eq_some_iff.mp k2).1] at k4
          cases k3
          cases k4
          exact .inr (.sh r1)
        · rw [List.getElem?_set_ne e, k1] at k3
          rw [List.getElem?_set_ne e, k2] at k4
          cases k3
          cases k4
          exact .inl ⟨rfl, rfl⟩
      exact ⟨as', ys, c.slots' g1 (r.move n) (List.Sublist.append g2 (List.Sublist.refl _))⟩
theorem Conf.set {i : Nat} {d : D} {v : V} (c : Conf K F ρ (.sh d :: ts) σ (v :: vs) H) (n : NoBr ts) : Conf K F (ρ.set i (.sh d)) ts (σ.set i (some v)) vs H := by
  obtain ⟨S, as, bs, c⟩ := c
  obtain ⟨as', bs', c⟩ := c.set (i := i) n
  exact ⟨S, as', bs', c⟩
theorem Cf.pushAll (c : Cf K F S ρ ts σ vs H as bs) : ∀ {ds : List D} {ws : List V}, Rps K S ws ds → Cf K F S ρ (ds.map .sh ++ ts) σ (ws ++ vs) H as bs
  | _, _, .nil => c
  | _, _, .cons h r => (Cf.pushAll c r).push h
end

/-! ### targets -/
def gOf (G : Gx) (tg : Tg) : TG := fun v σ H Q => ∃ ρ ts vs d ρ', NoBr ts ∧ Conf G.K G.F ρ (.sh d :: ts) σ (v :: vs) H ∧ asgTg tg d ρ = some ρ' ∧
  ∀ σ', Conf G.K G.F ρ' ts σ' vs H → σ'.length = σ.length → (∀ j, j ∉ tgIx tg → σ'[j]? = σ[j]?) → Q σ' H
def gsOf (G : Gx) (tgs : List Tg) : TGs := fun ws σ H Q => ∃ ρ ts vs ds ρ', NoBr ts ∧ Conf G.K G.F ρ (ds.map .sh ++ ts) σ (ws ++ vs) H ∧ ws.length = ds.length ∧ asgTgs tgs ds ρ = some ρ' ∧
  ∀ σ', Conf G.K G.F ρ' ts σ' vs H → σ'.length = σ.length → (∀ j, j ∉ tgsIx tgs → σ'[j]? = σ[j]?) → Q σ' H
theorem PG.imp {X : Cx} {e : Expr} {t t' : TG} (h : PG X e t) (hi : ∀ v σ H Q, t' v σ H Q → t v σ H Q) : PG X e t' := ⟨fun pins s σ H v u Q I r q => h.run pins s σ H v u Q I r (hi v σ H Q q)⟩
theorem PGs.imp {X : Cx} {e : List Expr} {t t' : TGs} (h : PGs X e t) (hi : ∀ v σ H Q, t' v σ H Q → t v σ H Q) : PGs X e t' := ⟨fun pins s σ H v u Q I r q => h.run pins s σ H v u Q I r (hi v σ H Q q)⟩
def locOk (N : List Str) (sc : Scope) (cf : Str → Bool) (i : Nat) (x : Str) : Bool :=
  decide (N[i]? = some x) && (match sc.names.lookup x with | some .local => true | some .cell => decide (x ≠ "") && cf x | _ => false)
theorem locOk_iff {N : List Str} {sc : Scope} {cf : Str → Bool} {i : Nat} {x : Str} (h : locOk N sc cf i x = true) : N[i]? = some x ∧ Loc sc x ∧ ((x ≠ "" ∧ cf x = true) ∨ sc.names.lookup x = some .local) := by
  unfold locOk at h
  simp only [Bool.and_eq_true, decide_eq_true_eq] at h
  obtain ⟨h1, h2⟩ := h
  split at h2
  · exact ⟨h1, .inl (by assumption), .inr (by assumption)⟩
  · rw [Bool.and_eq_true, decide_eq_true_eq] at h2
    exact ⟨h1, .inr (by assumption), .inl h2⟩
  · cases h2
mutual
def tgOk (N : List Str) (sc : Scope) (cf : Str → Bool) : Tg → Expr → Bool
  | .nm i, .Name x _ => locOk N sc cf i x
  | .tup ts, .Tuple es _ _ => !cf "" && tgsOk N sc cf ts es
  | _, _ => false
def tgsOk (N : List Str) (sc : Scope) (cf : Str → Bool) : List Tg → List Expr → Bool
  | [], [] => true
  | t :: ts, e :: es => tgOk N sc cf t e && tgsOk N sc cf ts es
  | _, _ => false
end
/-- the names that closures have; none but "" : the context is calm -/
structure CfOk (X : Cx) (cf : Str → Bool) : Prop where
  fn : ∀ x : Str, x ≠ ("" : Str) ∧ cf x = true → X.fn x = true
  calm : (!cf "") = true → X.calm = true
  hot : cf "" = true → X.calm = false
/-- the names of a comprehension's block that are cells -/
def cfB (scope : Scope) : Str → Bool := fun x => decide (x ≠ "") && (scope.names.lookup x == some .cell)
section
variable {X : Cx} {N : List Str} {sc : Scope} {cf : Str → Bool} {G : Gx} {pos : Pos}
theorem asgEach_tgs : ∀ {es : List Expr} {ts : List Tg}, tgsOk N sc cf ts es = true → (assignEach es X.env).length = ts.length ∧ (assignEach es X.env).findIdx? (·.1) = none ∧ (assignEach es X.env).map (·.2) = es.map (assign · X.env)
  | [], [], _ => ⟨rfl, rfl, rfl⟩
  | e :: es, t :: ts, h => by
    unfold tgsOk at h
    rw [Bool.and_eq_true] at h
    obtain ⟨g1, g2, g3⟩ := asgEach_tgs (es := es) (ts := ts) h.2
    cases e with
    | Name x p =>
      refine ⟨?_, ?_, ?_⟩
      · show (assignEach es X.env).length + 1 = _; rw [g1, List.length_cons]
      · show ((false, _) :: assignEach es X.env).findIdx? (·.1) = none
        rw [List.findIdx?_cons, g2]; rfl
      · show _ :: (assignEach es X.env).map (·.2) = _ :: es.map (assign · X.env)
        rw [g3]
    | Tuple xs k p =>
      refine ⟨?_, ?_, ?_⟩
      · show (assignEach es X.env).length + 1 = _; rw [g1, List.length_cons]
      · show ((false, _) :: assignEach es X.env).findIdx? (·.1) = none
        rw [List.findIdx?_cons, g2]; rfl
      · show _ :: (assignEach es X.env).map (·.2) = _ :: es.map (assign · X.env)
        rw [g3]
    | _ => have h1 := h.1; cases t <;> simp [tgOk] at h1
  | [], _ :: _, h => by simp [tgsOk] at h
  | _ :: _, [], h => by simp [tgsOk] at h
mutual
theorem s_tg (f : Fit X N sc G) (cc : CfOk X cf) : ∀ {tg : Tg} {e : Expr}, tgOk N sc cf tg e = true → PG X e (gOf G tg)
  | .nm i, .Name x p, h => by
    unfold tgOk at h
    obtain ⟨h1, h2, h3⟩ := locOk_iff h
    refine PG.imp (pg_name (i := i) f.nd (by rw [f.hN]; exact h1) (by rw [f.sc]; exact h2) (h3.imp (cc.fn x) (fun q => by rw [f.sc]; exact q))) fun v σ H Q ⟨ρ, ts, vs, d, ρ', n, c, e, q⟩ => ?_
    unfold asgTg at e
    have fin : ρ' = ρ.set i (.sh d) → gName i v σ H Q := fun e => by
      subst e
      exact q _ (c.set n) (by simp) fun j hj => by rw [List.getElem?_set_ne]; rintro rfl; exact hj (by unfold tgIx; simp)
    split at e
    · cases e
    · cases e; exact fin rfl
    · cases e
  | .tup ts, .Tuple es k p, h => by
    unfold tgOk at h
    rw [Bool.and_eq_true] at h
    obtain ⟨g1, g2, g3⟩ := asgEach_tgs (X := X) h.2
    refine PG.imp (pg_tup (n := ts.length) (cc.calm h.1) (s_tgs f cc h.2) g1 g2) fun v σ H Q ⟨ρ, us, vs, d, ρ', n, c, e, q⟩ => ?_
    unfold asgTg at e
    split at e
    · rename_i ds
      obtain ⟨S, as, bs, c⟩ := c
      have r : Rp G.K S v (.tuple ds) := by
        cases c.tms with
        | cons h _ => cases h with
          | sh h => exact h
      obtain ⟨a, xs, rfl, hq, r⟩ := Rp.tup_of r
      obtain ⟨cs, c2⟩ := c.drop
      have hl : ds.length = ts.length := by
        have : ∀ {ts : List Tg} {ds : List D} {ρ ρ' : Rho}, asgTgs ts ds ρ = some ρ' → ds.length = ts.length := by
          intro ts
          induction ts with
          | nil => intro ds ρ ρ' h; cases ds with | nil => rfl | cons _ _ => simp [asgTgs] at h
          | cons t ts ih =>
            intro ds ρ ρ' h
            cases ds with
            | nil => simp [asgTgs] at h
            | cons d ds =>
              obtain ⟨ρ1, _, h2⟩ := Option.bind_eq_some_iff.mp (show (asgTg t d ρ).bind (fun ρ' => asgTgs ts ds ρ') = some ρ' from h)
              simp [ih h2]
        exact this e
      refine ⟨a, xs, rfl, f.sqt (c2.sub.t hq), by rw [r.length, hl], ρ, us, vs, ds, ρ', n, ⟨S, as, cs, c2.pushAll r⟩, r.length, e, fun σ' c' hl' hj => q σ' c' hl' fun j hj' => hj j (by unfold tgIx at hj'; exact hj')⟩
    · cases e
  | .nm _, .Tuple _ _ _, h => by simp [tgOk] at h
  | .tup _, .Name _ _, h => by simp [tgOk] at h
theorem s_tgs (f : Fit X N sc G) (cc : CfOk X cf) : ∀ {tgs : List Tg} {es : List Expr}, tgsOk N sc cf tgs es = true → PGs X es (gsOf G tgs)
  | [], [], _ => PGs.imp pgs_nil fun vs0 σ H Q ⟨ρ, ts, vs, ds, ρ', n, c, hl, e, q⟩ => by
    cases ds with
    | cons _ _ => cases e
    | nil =>
      cases e
      have : vs0 = [] := List.eq_nil_of_length_eq_zero (by simpa using hl)
      subst this
      exact ⟨rfl, q σ (by simpa using c) rfl fun _ _ => rfl⟩
  | t :: ts, e :: es, h => by
    have h' := h
    unfold tgsOk at h'
    rw [Bool.and_eq_true] at h'
    obtain ⟨_, _, g3⟩ := asgEach_tgs (X := X) h
    obtain ⟨_, _, g4⟩ := asgEach_tgs (X := X) h'.2
    refine PGs.imp (pgs_cons (s_tg f cc h'.1) (s_tgs f cc h'.2) (by rw [g3, g4]; rfl)) fun vs0 σ H Q ⟨ρ, us, vs, ds, ρ', n, c, hl, e, q⟩ => ?_
    cases ds with
    | nil => cases e
    | cons d ds =>
      cases vs0 with
      | nil => simp at hl
      | cons v r =>
        obtain ⟨ρ1, h1, h2⟩ := Option.bind_eq_some_iff.mp (show (asgTg t d ρ).bind (fun ρ' => asgTgs ts ds ρ') = some ρ' from e)
        refine ⟨v, r, rfl, ρ, ds.map .sh ++ us, r ++ vs, d, ρ1, fun t ht i => ?_, (show Conf G.K G.F ρ (.sh d :: (ds.map .sh ++ us)) σ (v :: (r ++ vs)) H from c), h1, fun σ1 c1 hl1 hj1 => ⟨ρ1, us, vs, ds, ρ', n, c1, by simpa using hl, h2, fun σ2 c2 hl2 hj2 => q σ2 c2 (hl2.trans hl1) fun j hj => ?_⟩⟩
        · rcases List.mem_append.mp ht with z | z
          · obtain ⟨d', _, rfl⟩ := List.mem_map.mp z; exact fun z => by cases z
          · exact n t z i
        · unfold tgsIx at hj
          rw [List.mem_append, not_or] at hj
          rw [hj2 j hj.2, hj1 j hj.1]
  | [], _ :: _, h => by simp [tgsOk] at h
  | _ :: _, [], h => by simp [tgsOk] at h
end
end
end Ev

-- Ev8
/-! Ev8: what is walked; list comprehensions. -/
namespace Ev
open PySem L2 RZ

/-- the value of a turn: data that was seen, or a new tuple -/
def YldR (K : Fw) (S H : Hp) (x : V) (H' : Hp) (d : D) : Prop :=
  (H' = H ∧ Rp K S x d) ∨ ∃ p xs es, x = .ref p ∧ d = .tuple es ∧ H p = none ∧ H' = upd H p (.tup xs) ∧ Rps K S xs es
/-- what J walks -/
structure Wk (K : Fw) (S : Hp) (ds : List D) (J : It) : Prop where
  step : ∀ (i : Nat) (H : Hp) (d : D), Ext S H → ds[i]? = some d → J.go i H ∧ ∀ x H', J.yld i H x H' → YldR K S H x H' d
  stop : ∀ (i : Nat) (H : Hp), Ext S H → ds.length ≤ i → J.stop i H
def tI (G : Gx) (it : I) : TI := fun σ H R => ∃ ρ ts vs, Conf G.K G.F ρ ts σ vs H ∧ PostR G ts σ vs (evalI it ρ) fun ds ρ' => ∀ J H' S as bs, Cf G.K G.F S ρ' ts σ vs H' as bs → Wk G.K S ds J → R J H'
theorem PI.imp {X : Cx} {tg e : Expr} {t t' : TI} (h : PI X tg e t) (hi : ∀ σ H R, t' σ H R → t σ H R) : PI X tg e t' := ⟨fun pins s σ H R I q => h.run pins s σ H R I (hi σ H R q)⟩

/-! ### a dict -/
/-- its keys, in their order -/
def Itn (w : World) (d : Addr) (o : Obj) (es : List (NestedKey × Addr × V)) : It :=
  ⟨fun i H => H d = some (dN w d o es) ∧ i < es.length, fun i H x H' => H' = H ∧ ∃ p, es[i]? = some p ∧ x = .ref p.2.1, fun i H => H d = some (dN w d o es) ∧ es.length ≤ i⟩
theorem turn_dN {P : Program} {w : World} {K : PySem.W.Frag} {tg : Expr} {d : Addr} {o : Obj} {ds : Array DictEntry} {ep : Nat} {es : List (NestedKey × Addr × V)} (it : Addr) (hod : o.data = .dict ds ep) : Turn P w K tg (Itn w d o es) [it] it (fun i h => h.IsKeyIter it d i ds.size ep) where
  mem := by simp
  obj := fun i h st b hb => by
    have e : b = it := by simpa using hb
    subst e
    obtain ⟨oi, e, c, dd⟩ := st
    exact ⟨oi, e, fun v z => by rw [dd] at z; cases z⟩
  keep := fun i h h' st k => st.at fun oi e => k it (by simp) oi e
  item := by
    intro X hP hw hK hc i pins s σ H E I hf st hg
    subst hP hw hK
    obtain ⟨hd, hi⟩ := hg
    obtain ⟨f0, f1, f2, f3, f4, f5⟩ := hf it (by simp)
    obtain ⟨hs, hgd, hx, ds', ep', hdt, hsz, ent⟩ := dN_of I hd
    obtain ⟨rfl, rfl⟩ := dict_ep hod hdt
    obtain ⟨p, hp⟩ : ∃ p, es[i]? = some p := ⟨es[i], List.getElem?_eq_getElem hi⟩
    obtain ⟨hi', k1, k2⟩ := ent i p hp
    refine wpAny_pyNext_keys_item_raw st ⟨o, hgd, hx, hdt⟩ hi' fun h' st' sb => ?_
    have I1 : Inv X pins σ H { s with heap := h' } := I.turned (t' := s.toks) (fun b ob hb e => (sb.2 b hb).trans e) f0 f1 f3 f4 f5
    obtain ⟨oi, e, c, dd⟩ := id st'
    exact ⟨_, rfl, go_of (s := { s with heap := h' }) e c dd (by decide) ⟨.ref p.2.1, H, I1, k1, ⟨rfl, p, hp, rfl⟩, st', fun b hb => (hf b hb).1⟩⟩
  done := by
    intro X hP hw hK hc i pins s σ H E I hf st hg
    subst hP hw hK
    obtain ⟨hd, hi⟩ := hg
    obtain ⟨f0, f1, f2, f3, f4, f5⟩ := hf it (by simp)
    obtain ⟨hs, hgd, hx, ds', ep', hdt, hsz, ent⟩ := dN_of I hd
    obtain ⟨rfl, rfl⟩ := dict_ep hod hdt
    exact wpAny_pyNext_keys_end_raw (I.ok.hd hc) st ⟨o, hgd, hx, hdt⟩ (by omega) fun h' eb => ⟨rfl, I.turned (t' := s.toks) (fun b ob hb e => eb b ob hb e) f0 f1 f3 f4 f5⟩
  self := fun A i s Q E st h => by
    refine wpAny_pyIter_slot st.typeIs F.slot_dict_keyiterator_iter (wpAny_call_entry F.slot_dict_keyiterator_iter st.typeIs F.entry_dict_keyiterator_iter ?_ (F.args_dict_keyiterator_iter_1 _))
    show wpAny _ _ (ret (.ref it)) _ _ s
    exact wpAny_pure ⟨_, rfl, "dict_keyiterator", _, st.typeIs, F.slot_dict_keyiterator_next.lookup, h⟩
theorem ents_get {K : Fw} {S : Hp} : ∀ {es : List (NestedKey × Addr × V)} {kvs : List (D × D)} {i : Nat} {p : D × D}, Ents K S es kvs → kvs[i]? = some p → ∃ q, es[i]? = some q ∧ Rp K S (.ref q.2.1) p.1 ∧ Rp K S q.2.2 p.2
  | _, _, _, _, .nil, e => by simp at e
  | _, _, 0, _, .cons h k v _, e => by simp at e; subst e; exact ⟨_, rfl, h, v⟩
  | _, _, i + 1, _, .cons _ _ _ r, e => by
    obtain ⟨q, h1, h2, h3⟩ := ents_get (i := i) r (by simpa using e)
    exact ⟨q, by simpa using h1, h2, h3⟩
theorem wk_dN {K : Fw} {S : Hp} {d : Addr} {o : Obj} {es : List (NestedKey × Addr × V)} {kvs : List (D × D)} (h : S d = some (dN K.w d o es)) (r : Ents K S es kvs) : Wk K S (kvs.map (·.1)) (Itn K.w d o es) where
  step := fun i H x e hx => by
    rw [List.getElem?_map, Option.map_eq_some_iff] at hx
    obtain ⟨p, hp, rfl⟩ := hx
    obtain ⟨q, h1, h2, h3⟩ := ents_get r hp
    refine ⟨⟨e _ _ h, (List.getElem?_eq_some_iff.mp h1).1⟩, fun x H' ⟨e1, q', e2, e3⟩ => .inl ⟨e1, ?_⟩⟩
    rw [h1] at e2
    cases e2
    subst e3
    exact h2
  stop := fun i H e hl => ⟨e _ _ h, by rw [List.length_map] at hl; rw [r.length]; exact hl⟩
section
variable {X : Cx} {tg : Expr}
/-- a list, a tuple or a str -/
def iSeq (K : Fw) (tl : TE) : TI := fun σ H R => tl σ H fun x H1 => (∃ a xs, x = .ref a ∧ SqL K H1 a xs ∧ R (Itl K a) H1) ∨ (∃ a xs, x = .ref a ∧ SqT K H1 a xs ∧ R (Itt K a) H1) ∨ (∃ y, x = .str y ∧ R (Its y) H1) ∨ ∃ d o es, x = .ref d ∧ H1 d = some (dN K.w d o es) ∧ R (Itn K.w d o es) H1
theorem pi_seq {l : Expr} {tl : TE} (hl : PE X l tl) : PI X tg l (iSeq (kx X) tl) := by
  refine ⟨fun pins s σ H R I h => ?_⟩
  refine thn (hl.run pins s σ H _ I h) fun v s1 ⟨x, H1, I1, r1, q1⟩ => ?_
  rcases q1 with ⟨a, xs, e, hq, q⟩ | ⟨a, xs, e, hq, q⟩ | ⟨y, e, q⟩ | ⟨d, o, es, e, hd, q⟩
  · subst e
    cases r1
    obtain ⟨its, rv, p, hz⟩ := I1.list hq
    refine wpAny_pyIter_list p.isList ?_
    refine ⟨s1.heap.objs.size, [s1.heap.objs.size], _, _, H1, rfl, I1.kept (t' := s1.toks) fun b o e => Heap.get?_push_of_some _ e, turn_list a _, ⟨_, Heap.get?_push_size _ rfl, rfl, rfl⟩, fun b hb => ?_, q⟩
    have e : b = s1.heap.objs.size := by simpa using hb
    subst e
    exact I1.fpOk (Nat.le_refl _) (I1.hok.fresh (Nat.le_refl _))
  · subst e
    cases r1
    obtain ⟨its, rv, p, hz⟩ := I1.tuple hq
    refine wpAny_pyIter_tuple (show s1.heap.IsTuple a its.toArray from p) ?_
    refine ⟨s1.heap.objs.size, [s1.heap.objs.size], _, _, H1, rfl, I1.kept (t' := s1.toks) fun b o e => Heap.get?_push_of_some _ e, turn_tuple a _, ⟨_, Heap.get?_push_size _ rfl, rfl, rfl⟩, fun b hb => ?_, q⟩
    have e : b = s1.heap.objs.size := by simpa using hb
    subst e
    exact I1.fpOk (Nat.le_refl _) (I1.hok.fresh (Nat.le_refl _))
  · subst e
    obtain ⟨t, rfl⟩ := r1
    cases ha : y.cps.all (· < 128)
    · exact wpAny_pyIter_wide ha (pi_one (tk := s1.toks) I1 _ (turn_str _ y t "str_iterator" (.inr rfl)) ⟨_, Heap.get?_push_size _ rfl, rfl, rfl⟩ q)
    · exact wpAny_pyIter_ascii ha (pi_one (tk := s1.toks) I1 _ (turn_str _ y t "str_ascii_iterator" (.inl rfl)) ⟨_, Heap.get?_push_size _ rfl, rfl, rfl⟩ q)
  · subst e
    cases r1
    obtain ⟨hs, hgd, hx, ds, ep, hdt, hsz, ent⟩ := dN_of I1 hd
    exact iter_keys hs hgd hx hdt (pi_one (tk := s1.toks) I1 _ (turn_dN _ hdt) ⟨_, Heap.get?_push_size _ rfl, rfl, rfl⟩ q)
end

section
variable {K : Fw} {S : Hp}
theorem wk_list {a : Addr} {xs : List V} {ds : List D} (h : SqL K S a xs) (r : Rps K S xs ds) : Wk K S ds (Itl K a) where
  step := fun i H d e hd => by
    obtain ⟨v, h1, h2⟩ := r.get hd
    refine ⟨⟨xs, v, e.l h, h1⟩, fun x H' ⟨e1, y⟩ => .inl ⟨e1, ?_⟩⟩
    have := y xs (e.l h)
    rw [h1] at this
    cases this
    exact h2
  stop := fun i H e hl => ⟨xs, e.l h, by rw [r.length]; exact hl⟩
theorem wk_tup {a : Addr} {xs : List V} {ds : List D} (h : SqT K S a xs) (r : Rps K S xs ds) : Wk K S ds (Itt K a) where
  step := fun i H d e hd => by
    obtain ⟨v, h1, h2⟩ := r.get hd
    refine ⟨⟨xs, v, e.t h, h1⟩, fun x H' ⟨e1, y⟩ => .inl ⟨e1, ?_⟩⟩
    have := y xs (e.t h)
    rw [h1] at this
    cases this
    exact h2
  stop := fun i H e hl => ⟨xs, e.t h, by rw [r.length]; exact hl⟩
theorem wk_str {x : Str} : Wk K S (x.cps.toList.map fun c => .str ⟨#[c]⟩) (Its x) where
  step := fun i H d e hd => by
    rw [List.getElem?_map, Option.map_eq_some_iff] at hd
    obtain ⟨c, hc, rfl⟩ := hd
    have hc' : x.cps[i]? = some c := by simpa using hc
    refine ⟨(Array.getElem?_eq_some_iff.mp hc').1, fun y H' ⟨e1, c', h1, h2⟩ => .inl ⟨e1, ?_⟩⟩
    rw [hc'] at h1
    cases h1
    subst h2
    exact .str _
  stop := fun i H e hl => by
    show x.cps.size ≤ i
    simpa using hl
theorem wk_rng {lo : Int} {n : Nat} : Wk K S (rngD lo n) (Itr lo n) where
  step := fun i H d e hd => by
    unfold rngD at hd
    rw [List.getElem?_map, Option.map_eq_some_iff] at hd
    obtain ⟨k, hk, rfl⟩ := hd
    rw [List.getElem?_eq_some_iff] at hk
    obtain ⟨h1, h2⟩ := hk
    simp at h1 h2
    subst h2
    refine ⟨h1, fun x H' ⟨e1, e2⟩ => .inl ⟨e1, ?_⟩⟩
    subst e2
    exact .int _
  stop := fun i H e hl => by
    show n ≤ i
    simpa [rngD] using hl
theorem enumFrom_get : ∀ {ds : List D} {k i : Nat}, (enumFrom k ds)[i]? = ds[i]?.map fun d => .tuple [.int ((k + i : Nat) : Int), d]
  | [], k, i => by simp [enumFrom]
  | d :: ds, k, 0 => by simp [enumFrom]
  | d :: ds, k, i + 1 => by
    unfold enumFrom
    rw [List.getElem?_cons_succ, List.getElem?_cons_succ, enumFrom_get]
    have : k + 1 + i = k + (i + 1) := by omega
    rw [this]
theorem enumFrom_length : ∀ {ds : List D} {k : Nat}, (enumFrom k ds).length = ds.length
  | [], _ => rfl
  | _ :: ds, k => by unfold enumFrom; rw [List.length_cons, enumFrom_length, List.length_cons]
theorem wk_enum {a : Addr} {xs : List V} {ds : List D} (h : SqL K S a xs) (r : Rps K S xs ds) : Wk K S (enumFrom 0 ds) (Ite K a) where
  step := fun i H d e hd => by
    rw [enumFrom_get, Option.map_eq_some_iff] at hd
    obtain ⟨d', hd, rfl⟩ := hd
    obtain ⟨v, h1, h2⟩ := r.get hd
    refine ⟨⟨xs, v, e.l h, h1⟩, fun x H' ⟨T, y, e1, hT, e2, g⟩ => .inr ⟨T, _, _, e1, rfl, hT, e2, ?_⟩⟩
    have := g xs (e.l h)
    rw [h1] at this
    cases this
    rw [Nat.zero_add]
    exact .cons (.int _) (.cons h2 .nil)
  stop := fun i H e hl => ⟨xs, e.l h, by rw [enumFrom_length] at hl; rw [r.length]; exact hl⟩
theorem zipD_get : ∀ {ds es : List D} {i : Nat} {d : D}, (zipD ds es)[i]? = some d → ∃ a b, ds[i]? = some a ∧ es[i]? = some b ∧ d = .tuple [a, b]
  | a :: ds, b :: es, 0, d, h => by
    simp [zipD] at h
    subst h
    exact ⟨a, b, rfl, rfl, rfl⟩
  | a :: ds, b :: es, i + 1, d, h => by
    unfold zipD at h
    rw [List.getElem?_cons_succ] at h
    obtain ⟨x, y, h1, h2, h3⟩ := zipD_get h
    exact ⟨x, y, by simpa using h1, by simpa using h2, h3⟩
  | [], _, _, _, h => by simp [zipD] at h
  | _ :: _, [], _, _, h => by simp [zipD] at h
theorem zipD_length : ∀ {ds es : List D}, (zipD ds es).length = min ds.length es.length
  | a :: ds, b :: es => by unfold zipD; rw [List.length_cons, zipD_length, List.length_cons, List.length_cons]; omega
  | [], _ => by simp [zipD]
  | _ :: _, [] => by simp [zipD]
theorem wk_zip {a b : Addr} {xs ys : List V} {ds es : List D} (h : SqL K S a xs) (r : Rps K S xs ds) (h' : SqL K S b ys) (r' : Rps K S ys es) : Wk K S (zipD ds es) (Itz K a b) where
  step := fun i H d e hd => by
    obtain ⟨x, y, k1, k2, rfl⟩ := zipD_get hd
    obtain ⟨v, h1, h2⟩ := r.get k1
    obtain ⟨v', h1', h2'⟩ := r'.get k2
    refine ⟨⟨xs, ys, v, v', e.l h, e.l h', h1, h1'⟩, fun x H' ⟨T, y, z, e1, hT, e2, g, g'⟩ => .inr ⟨T, _, _, e1, rfl, hT, e2, ?_⟩⟩
    have := g xs (e.l h)
    rw [h1] at this
    cases this
    have := g' ys (e.l h')
    rw [h1'] at this
    cases this
    exact .cons h2 (.cons h2' .nil)
  stop := fun i H e hl => ⟨xs, ys, e.l h, e.l h', by rw [zipD_length] at hl; rw [r.length, r'.length]; omega⟩
theorem wk_zipT {a b : Addr} {xs ys : List V} {ds es : List D} (h : SqT K S a xs) (r : Rps K S xs ds) (h' : SqT K S b ys) (r' : Rps K S ys es) : Wk K S (zipD ds es) (ItzT K a b) where
  step := fun i H d e hd => by
    obtain ⟨x, y, k1, k2, rfl⟩ := zipD_get hd
    obtain ⟨v, h1, h2⟩ := r.get k1
    obtain ⟨v', h1', h2'⟩ := r'.get k2
    refine ⟨⟨xs, ys, v, v', e.t h, e.t h', h1, h1'⟩, fun x H' ⟨T, y, z, e1, hT, e2, g, g'⟩ => .inr ⟨T, _, _, e1, rfl, hT, e2, ?_⟩⟩
    have := g xs (e.t h)
    rw [h1] at this
    cases this
    have := g' ys (e.t h')
    rw [h1'] at this
    cases this
    exact .cons h2 (.cons h2' .nil)
  stop := fun i H e hl => ⟨xs, ys, e.t h, e.t h', by rw [zipD_length] at hl; rw [r.length, r'.length]; omega⟩
end

section
variable {X : Cx} {N : List Str} {sc : Scope} {cf : Str → Bool} {G : Gx} {pos p : Pos} {a b tg : Expr} {ea eb : E}
theorem s_ilst (f : Fit X N sc G) (ha : PE X a (tE G ea)) : PI X tg a (tI G (.lst ea)) := by
  refine PI.imp (pi_seq ha) fun σ H R ⟨ρ, ts, vs, c, q⟩ => ?_
  unfold evalI at q
  refine ⟨ρ, ts, vs, c, q.bind.mono fun t ρ1 p1 v H1 ⟨S, as, bs, c1⟩ => ?_⟩
  obtain ⟨d, ρ2, h1, h2, p2⟩ := take_post p1
  obtain ⟨S', as', bs', e, c2, r⟩ := c1.took h1 h2
  unfold itemsOf at p2
  cases d with
  | list ds =>
    obtain ⟨a, xs, rfl, k1, k2⟩ := r.lst_of
    exact .inl ⟨a, xs, rfl, f.sql (c2.sub.l k1), p2 _ _ S' as' bs' c2 (f.K ▸ wk_list k1 k2)⟩
  | tuple ds =>
    obtain ⟨a, xs, rfl, k1, k2⟩ := r.tup_of
    exact .inr (.inl ⟨a, xs, rfl, f.sqt (c2.sub.t k1), p2 _ _ S' as' bs' c2 (f.K ▸ wk_tup k1 k2)⟩)
  | str y =>
    cases r.str_of
    exact .inr (.inr (.inl ⟨y, rfl, p2 _ _ S' as' bs' c2 wk_str⟩))
  | dict kvs =>
    simp only [] at p2
    cases ho : opq kvs with
    | true => rw [ho] at p2; exact p2.elim
    | false =>
      rw [ho] at p2
      obtain ⟨p, o, es, rfl, k1, k2⟩ := r.dct_of' ho
      have k1' : S' p = some (dN X.w p o es) := by rw [f.K] at k1; exact k1
      have wk : Wk G.K S' (kvs.map (·.1)) (Itn X.w p o es) := by
        have := wk_dN k1 k2
        rw [f.K] at this ⊢
        exact this
      exact .inr (.inr (.inr ⟨p, o, es, rfl, c2.sub _ _ k1', p2 _ _ S' as' bs' c2 wk⟩))
  | _ => exact p2.elim
theorem rngOk_iff {j : Int} (h : RngOk j) : -(2 ^ 62) ≤ j ∧ j < 2 ^ 62 := h
theorem s_irng1 (f : Fit X N sc G) (hg : glOk sc "range" = true) (hm : X.mg "range" = none) (ha : PE X a (tE G ea)) (hs : starEach [a] X.env = (false, eval a X.env) :: starEach [] X.env) : PI X tg (.Call (.Name "range" p) [a] [] pos) (tI G (.rng1 ea)) := by
  obtain ⟨h1, _, _⟩ := glOk_iff hg
  refine PI.imp (pi_range1 (f.gl h1) hm (pa_cons ha pa_nil hs) hs) fun σ H R ⟨ρ, ts, vs, c, q⟩ => ?_
  unfold evalI at q
  refine ⟨ρ, ts, vs, c, q.bind.mono fun t ρ1 p1 v H1 c1 => ?_⟩
  split at p1
  · rename_i j hd
    split at p1
    · rename_i hr
      obtain ⟨r1, r2⟩ := rngOk_iff hr
      have c1' := c1
      obtain ⟨S, as, bs, c1⟩ := c1
      cases Rp.int_of (c1.top hd)
      obtain ⟨S, as, bs, c2⟩ := c1'.drop
      exact ⟨j, rfl, r1, r2, p1 _ _ S as bs c2 wk_rng⟩
    · exact p1.elim
  · exact p1.elim
theorem s_irng2 (f : Fit X N sc G) (hg : glOk sc "range" = true) (hm : X.mg "range" = none) (ha : PE X a (tE G ea)) (hb : PE X b (tE G eb)) (hs : starEach [a, b] X.env = (false, eval a X.env) :: starEach [b] X.env)
    (hs2 : starEach [b] X.env = (false, eval b X.env) :: starEach [] X.env) : PI X tg (.Call (.Name "range" p) [a, b] [] pos) (tI G (.rng2 ea eb)) := by
  obtain ⟨h1, _, _⟩ := glOk_iff hg
  refine PI.imp (pi_range2 (f.gl h1) hm (pa_cons ha (pa_cons hb pa_nil hs2) hs) (by rw [hs, hs2]; rfl) hs2) fun σ H R ⟨ρ, ts, vs, c, q⟩ => ?_
  unfold evalI at q
  refine ⟨ρ, ts, vs, c, q.bind.mono fun t ρ1 p1 v H1 c1 => ⟨ρ1, t :: ts, v :: vs, c1, p1.bind.weak.mono fun u ρ2 p2 w H2 c2 => ?_⟩⟩
  split at p2
  · rename_i i j hi hj
    split at p2
    · rename_i hr
      obtain ⟨r1, r2⟩ := rngOk_iff hr.1
      obtain ⟨r3, r4⟩ := rngOk_iff hr.2
      have c2' := c2
      obtain ⟨S, as, bs, c2⟩ := c2
      cases Rp.int_of (c2.top hj)
      cases Rp.int_of (c2.top2 hi)
      obtain ⟨S, as, bs, c3⟩ := c2'.drop.drop
      exact ⟨i, j, rfl, ⟨r1, r2, r3, r4⟩, p2 _ _ S as bs c3 wk_rng⟩
    · exact p2.elim
  · exact p2.elim
theorem s_ienum (f : Fit X N sc G) {elts : List Expr} {kk : Nat} {tpos : Pos} (hg : glOk sc "enumerate" = true) (hm : X.mg "enumerate" = none) (ha : PE X a (tE G ea)) (hs : starEach [a] X.env = (false, eval a X.env) :: starEach [] X.env) :
    PI X (.Tuple elts kk tpos) (.Call (.Name "enumerate" p) [a] [] pos) (tI G (.enum ea)) := by
  obtain ⟨h1, _, _⟩ := glOk_iff hg
  refine PI.imp (pi_enum (f.gl h1) hm (pa_cons ha pa_nil hs) hs) fun σ H R ⟨ρ, ts, vs, c, q⟩ => ?_
  unfold evalI at q
  refine ⟨ρ, ts, vs, c, q.bind.mono fun t ρ1 p1 v H1 ⟨S, as, bs, c1⟩ => ?_⟩
  obtain ⟨d, ρ2, h1, h2, p2⟩ := take_post p1
  obtain ⟨S', as', bs', e, c2, r⟩ := c1.took h1 h2
  cases d with
  | list ds =>
    obtain ⟨a, xs, rfl, k1, k2⟩ := r.lst_of
    exact ⟨a, xs, rfl, f.sql (c2.sub.l k1), p2 _ _ S' as' bs' c2 (f.K ▸ wk_enum (K := G.K) k1 k2)⟩
  | _ => exact p2.elim
theorem s_izip (f : Fit X N sc G) {elts : List Expr} {kk : Nat} {tpos : Pos} (hg : glOk sc "zip" = true) (hm : X.mg "zip" = none) (ha : PE X a (tE G ea)) (hb : PE X b (tE G eb)) (hs : starEach [a, b] X.env = (false, eval a X.env) :: starEach [b] X.env)
    (hs2 : starEach [b] X.env = (false, eval b X.env) :: starEach [] X.env) (hpl : (backTo pos (starEach [b] X.env)).any (·.1) = false) : PI X (.Tuple elts kk tpos) (.Call (.Name "zip" p) [a, b] [] pos) (tI G (.zip ea eb)) := by
  obtain ⟨h1, _, _⟩ := glOk_iff hg
  refine PI.imp (pi_zipA (f.gl h1) hm (pa_cons ha (pa_cons hb pa_nil hs2) hs) hs hpl) fun σ H R ⟨ρ, ts, vs, c, q⟩ => ?_
  unfold evalI at q
  refine ⟨ρ, ts, vs, c, q.bind.mono fun t ρ1 p1 v H1 ⟨S, as, bs, c1⟩ => ?_⟩
  obtain ⟨d, ρ2, h1, h2, p2⟩ := take_post p1
  obtain ⟨S', as', bs', e, c2⟩ := c1.esc h1 h2
  refine ⟨ρ2, .sh d :: ts, v :: vs, ⟨S', as', bs', c2⟩, p2.bind.weak.mono fun u ρ3 p3 w H3 ⟨S3, as3, bs3, c3⟩ => ?_⟩
  obtain ⟨d', ρ4, g1, g2, p4⟩ := take_post p3
  obtain ⟨S4, as4, bs4, e4, c4, r4⟩ := c3.took g1 g2
  have r : Rp G.K S4 v d := by
    cases c4.tms with
    | cons h _ => cases h with
      | sh h => exact h
  obtain ⟨cs, c5⟩ := c4.drop
  cases d with
  | list ds =>
    cases d' with
    | list es =>
      obtain ⟨a, xs, rfl, k1, k2⟩ := r.lst_of
      obtain ⟨b, ys, rfl, k3, k4⟩ := r4.lst_of
      exact ⟨a, b, xs, ys, rfl, .inl ⟨f.sql (c5.sub.l k1), f.sql (c5.sub.l k3), p4 _ _ S4 as4 cs c5 (f.K ▸ wk_zip (K := G.K) k1 k2 k3 k4)⟩⟩
    | _ => exact p4.elim
  | tuple ds =>
    cases d' with
    | tuple es =>
      obtain ⟨a, xs, rfl, k1, k2⟩ := r.tup_of
      obtain ⟨b, ys, rfl, k3, k4⟩ := r4.tup_of
      exact ⟨a, b, xs, ys, rfl, .inr ⟨f.sqt (c5.sub.t k1), f.sqt (c5.sub.t k3), p4 _ _ S4 as4 cs c5 (f.K ▸ wk_zipT (K := G.K) k1 k2 k3 k4)⟩⟩
    | _ => exact p4.elim
  | _ => exact p4.elim
end
end Ev

-- Ev9
/-! Ev9: list comprehensions. -/
namespace Ev
open PySem L2

def W0 : WX := fun _ _ _ _ => False
def dim : Tm → Tm
  | .br _ => .un
  | t => t
/-- a later start -/
def Frm.from_ (F : Frm) (S : Hp) : Frm := { F with S0 := S }

section
variable {K : Fw} {F F' : Frm} {H H' S S' S1 H1 : Hp} {σ σ' σ1 : St} {ρ ρ' ρ1 : Rho} {t : Tm} {ts ts1 : List Tm} {v : V} {vs vs1 : List V} {as bs as1 bs1 : List Addr}
theorem SlRs.frm (h1 : F'.Hin = F.Hin) (h2 : F'.io = F.io) (h3 : F'.xa = F.xa) : ∀ {ρ : Rho} {σ : St} {as : List Addr}, SlRs K F H S ρ σ as → SlRs K F' H S ρ σ as
  | _, _, _, .nil => .nil
  | _, _, _, .cons h r => by
    refine .cons ?_ (SlRs.frm h1 h2 h3 r)
    cases h with
    | un => exact .un _
    | sh r => exact .sh r
    | ow r n => exact .ow r (by rw [h1]; exact n)
    | io r n => exact .io r (by rw [h2]; exact n)
    | ex k1 k2 k3 => exact .ex (by rw [h3]; exact k1) k2 k3
theorem TmRs.frm (h1 : F'.Hin = F.Hin) : ∀ {ts : List Tm} {vs : List V} {as : List Addr}, TmRs K F H S σ ts vs as → TmRs K F' H S σ ts vs as
  | _, _, _, .nil => .nil
  | _, _, _, .cons h r => by
    refine .cons ?_ (TmRs.frm h1 r)
    cases h with
    | sh r => exact .sh r
    | ow r n => exact .ow r (by rw [h1]; exact n)
    | br r => exact .br r
    | un => exact .un _
theorem Cf.start (c : Cf K F S ρ ts σ vs H as bs) : Cf K (F.from_ S) S ρ ts σ vs H as bs :=
  ⟨c.sub, Same.refl _, fun a o h => .inl ⟨o, h⟩, c.keep, c.iod, c.slots.frm (F := F) (F' := F.from_ S) rfl rfl rfl, c.tms.frm (F := F) (F' := F.from_ S) rfl, c.nd, c.out⟩
theorem Cf.back (c1 : Cf K F S1 ρ1 ts1 σ1 vs1 H1 as1 bs1) (c : Cf K (F.from_ S1) S ρ ts σ vs H as bs) : Cf K F S ρ ts σ vs H as bs :=
  ⟨c.sub, c1.s0.trans c.s0, fun a o h => (c.new a o h).elim (fun ⟨o', q⟩ => c1.new a o' q) .inr, c.keep, c.iod, c.slots.frm (F := F.from_ S1) (F' := F) rfl rfl rfl, c.tms.frm (F := F.from_ S1) (F' := F) rfl, c.nd, c.out⟩
theorem Conf.back (c1 : Cf K F S1 ρ1 ts1 σ1 vs1 H1 as1 bs1) (c : Conf K (F.from_ S1) ρ ts σ vs H) : Conf K F ρ ts σ vs H := by
  obtain ⟨S, as, bs, c⟩ := c
  exact ⟨S, as, bs, c1.back c⟩
theorem dim_nobr (ts : List Tm) : NoBr (ts.map dim) := fun t ht i e => by
  obtain ⟨u, _, rfl⟩ := List.mem_map.mp ht
  cases u <;> cases e
theorem TmRs.dim : ∀ {ts : List Tm} {vs : List V} {as : List Addr}, TmRs K F H S σ ts vs as → TmRs K F H S σ (ts.map Ev.dim) vs as
  | _, _, _, .nil => .nil
  | _, _, _, .cons h r => by
    refine .cons ?_ (TmRs.dim r)
    cases h with
    | sh r => exact .sh r
    | ow r n => exact .ow r n
    | br r => exact .un _
    | un => exact .un _
theorem TmRs.undim : ∀ {ts : List Tm} {vs : List V} {as as1 : List Addr}, TmRs K F H S σ (ts.map Ev.dim) vs as → TmRs K F H1 S1 σ1 ts vs as1 → TmRs K F H S σ1 ts vs as
  | [], _, _, _, .nil, .nil => .nil
  | t :: ts, _, _, _, .cons h r, .cons h1 r1 => by
    refine .cons ?_ (TmRs.undim r r1)
    cases h1 with
    | br q => cases h; exact .br q
    | sh _ => cases h with | sh r => exact .sh r
    | ow _ _ => cases h with | ow r n => exact .ow r n
    | un => cases h; exact .un _
theorem SlRs.clr (h : SlRs K F H S ρ σ as) (ws : List Nat) : ∃ as', SlRs K F H S (clr ρ ws) (wipe σ ws) as' ∧ as'.Sublist as := by
  refine h.repl (clr_length _ _) (wipe_length _ _) fun i s s' o o' k1 k2 k3 k4 => ?_
  by_cases e : i ∈ ws
  · rw [clr_in e (List.getElem?_eq_some_iff.mp k1).1] at k3
    cases k3
    exact .inr (.un _)
  · rw [clr_out e, k1] at k3
    rw [wipe_out e, k2] at k4
    cases k3
    cases k4
    exact .inl ⟨rfl, rfl⟩
theorem Cf.clr (c : Cf K F S ρ ts σ vs H as bs) (n : NoBr ts) (ws : List Nat) : ∃ as', Cf K F S (clr ρ ws) ts (wipe σ ws) vs H as' bs := by
  obtain ⟨as', g1, g2⟩ := c.slots.clr ws
  exact ⟨as', c.slots' g1 (c.tms.move n) (List.Sublist.append g2 (List.Sublist.refl _))⟩
theorem Conf.clr (c : Conf K F ρ ts σ vs H) (n : NoBr ts) (ws : List Nat) : Conf K F (clr ρ ws) ts (wipe σ ws) vs H := by
  obtain ⟨S, as, bs, c⟩ := c
  obtain ⟨as', c⟩ := c.clr n ws
  exact ⟨S, as', bs, c⟩
/-- slots are forgotten -/
theorem SlRs.fgt (h : SlRs K F H S ρ σ as) (ws : List Nat) : ∃ as', SlRs K F H S (Ev.clr ρ ws) σ as' ∧ as'.Sublist as := by
  refine h.repl (clr_length _ _) rfl fun i s s' o o' k1 k2 k3 k4 => ?_
  rw [k2] at k4
  cases k4
  by_cases e : i ∈ ws
  · rw [clr_in e (List.getElem?_eq_some_iff.mp k1).1] at k3
    cases k3
    exact .inr (.un _)
  · rw [clr_out e, k1] at k3
    cases k3
    exact .inl ⟨rfl, rfl⟩
theorem Conf.fgt (c : Conf K F ρ ts σ vs H) (ws : List Nat) : Conf K F (Ev.clr ρ ws) ts σ vs H := by
  obtain ⟨S, as, bs, c⟩ := c
  obtain ⟨as', g1, g2⟩ := c.slots.fgt ws
  exact ⟨S, as', bs, c.slots' g1 c.tms (List.Sublist.append g2 (List.Sublist.refl _))⟩
theorem Cf.dim (c : Cf K F S ρ ts σ vs H as bs) : Cf K F S ρ (ts.map Ev.dim) σ vs H as bs := c.slots' c.slots c.tms.dim (List.Sublist.refl _)
/-- a comprehension's end: its own names' slots as they stood -/
theorem Cf.fin (c1 : Cf K F S1 ρ1 ts σ vs H1 as1 bs1) {ws : List Nat} (hp : ws.all (plainAt ρ1) = true) (n : ∀ i, t ≠ .br i) (c : Cf K (F.from_ S1) S ρ (t :: ts.map Ev.dim) (wipe σ ws) (v :: vs) H as bs) :
    ∃ as', Cf K F S (rst ρ1 ρ ws) (t :: ts) σ (v :: vs) H as' bs := by
  have cb := c1.back c
  have l1 := c1.slots.length
  have l2 := c.slots.length
  rw [wipe_length] at l2
  obtain ⟨as', g1, g2⟩ := cb.slots.repl (ρ' := rst ρ1 ρ ws) (σ' := σ) (rst_length _ _ _) (wipe_length _ _).symm fun i s s' o o' k1 k2 k3 k4 => by
    by_cases e : i ∈ ws
    · have hi := (List.getElem?_eq_some_iff.mp k1).1
      rw [rst_in e hi] at k3
      cases k3
      have hpl := List.all_eq_true.mp hp i e
      unfold plainAt at hpl
      have hi1 : i < ρ1.length := by omega
      have e1 : ρ1[i]? = some ρ1[i] := List.getElem?_eq_getElem hi1
      rw [e1] at hpl ⊢
      obtain ⟨o2, ys, z1, z2, _⟩ := c1.slots.mem e1
      rw [k4] at z1
      cases z1
      show _ ∨ SlR K F H S ρ1[i] o' []
      generalize ρ1[i] = s1 at hpl z2
      cases s1 with
      | un => exact .inr (.un _)
      | sh d => cases z2 with | sh r => exact .inr (.sh (r.ext c.s0))
      | ow d => cases hpl
      | io k d => cases hpl
      | ex x => cases hpl
    · rw [rst_out e, k1] at k3
      rw [wipe_out e, k4] at k2
      cases k3
      cases k2
      exact .inl ⟨rfl, rfl⟩
  refine ⟨as', cb.slots' g1 ?_ (List.Sublist.append g2 (List.Sublist.refl _))⟩
  cases cb.tms with
  | cons h r =>
    refine .cons ?_ (r.undim c1.tms)
    cases h with
    | sh r => exact .sh r
    | ow r m => exact .ow r m
    | br r => exact absurd rfl (n _)
    | un => exact .un _
/-- the object of the topmost temporary changes -/
theorem Cf.chg {D : Addr} {d d' : Ev.D} {o : HO} (c : Cf K F S ρ (.ow d :: ts) σ (.ref D :: vs) H as bs) (h : OwnAt K (upd H D o) S D d') : Cf K F S ρ (.ow d' :: ts) σ (.ref D :: vs) (upd H D o) as bs := by
  obtain ⟨c1, c2, c3, c4, c0, c5, c6, c7, c8⟩ := c
  cases c6 with
  | cons h1 r =>
    rename_i xs ys
    cases h1 with
    | ow h1 hn =>
      obtain ⟨n1, n2, n3⟩ := List.nodup_append.mp c7
      have nd : D ∉ ys := (List.nodup_cons.mp (show (D :: ys).Nodup from n2)).1
      have ne : ∀ a ∈ as, a ≠ D := fun a ha => n3 a ha D (by simp)
      refine ⟨fun a o' hq => ?_, c2, c3, fun a o' hq n => ?_, fun a h => ?_, c5.mono (Same.refl _) fun a ha o' h => ?_, .cons (as := [D]) (.ow h hn) (r.mono (Same.refl _) fun a ha o' h => ?_), c7, c8⟩
      · rw [upd_ne]
        · exact c1 a o' hq
        · rintro rfl
          rw [c8 a (by simp)] at hq; cases hq
      · rw [upd_ne]
        · exact c4 a o' hq n
        · rintro rfl; rw [hn] at hq; cases hq
      · by_cases e : a = D
        · subst e; exact ⟨_, upd_same⟩
        · rw [upd_ne e]; exact c0 a h
      · rw [upd_ne (ne a ha)]; exact h
      · rw [upd_ne (by rintro rfl; exact nd ha)]; exact h
/-- a turn's value -/
theorem Cf.yld {x : V} {d : D} (c : Cf K F S ρ ts σ vs H as bs) (e : Ext S1 S) (y : YldR K S1 H x H' d) : ∃ S', Ext S S' ∧ Cf K F S' ρ (.sh d :: ts) σ (x :: vs) H' as bs := by
  rcases y with ⟨rfl, r⟩ | ⟨p, xs, es, rfl, rfl, hp, rfl, r⟩
  · exact ⟨S, Same.refl _, c.push (r.ext e)⟩
  · have hS : S p = none := none_of_ext c.sub hp
    have e2 : Ext S (upd S p (.tup xs)) := ext_upd hS
    exact ⟨_, e2, (c.see hp).push (.tup (.inl (.inl upd_same)) (r.ext (Same.trans e e2)))⟩
theorem clr_eq {ρ ρ' : Rho} {ws : List Nat} (hl : ρ'.length = ρ.length) (h : ∀ j, j ∉ ws → ρ'[j]? = ρ[j]?) : Ev.clr ρ' ws = Ev.clr ρ ws := by
  apply List.ext_getElem?
  intro j
  by_cases hm : j ∈ ws
  · by_cases hj : j < ρ.length
    · rw [clr_in hm hj, clr_in hm (by omega)]
    · rw [List.getElem?_eq_none_iff.mpr (by rw [clr_length]; omega), List.getElem?_eq_none_iff.mpr (by rw [clr_length]; omega)]
  · rw [clr_out hm, clr_out hm, h j hm]
theorem clr_sub {ρ : Rho} {ws us : List Nat} (h : ∀ i ∈ us, i ∈ ws) : Ev.clr (Ev.clr ρ us) ws = Ev.clr ρ ws := clr_eq (clr_length _ _) fun j hj => clr_out fun m => hj (h j m)
theorem wipe_sub {σ : St} {ws us : List Nat} (h : ∀ i ∈ us, i ∈ ws) : wipe (wipe σ us) ws = wipe σ ws := wipe_eq (wipe_length _ _) fun j hj => wipe_out fun m => hj (h j m)
end

/-! ### readings of a block -/
def Gb (K : Fw) (mg : Str → Option Value) (F : Frm) : Gx := ⟨K, mg, F, W0⟩
def tEb (K : Fw) (mg : Str → Option Value) (e : E) : TE := fun σ H Q => ∃ F, tE (Gb K mg F) e σ H Q
def tC (G : Gx) (c : Option T) : TT := fun σ H Q => ∃ ρ ts vs, Conf G.K G.F ρ ts σ vs H ∧ PostR G ts σ vs (evalC c ρ) fun k ρ' => ∀ H', Conf G.K G.F ρ' ts σ vs H' → Q k H'
def tCb (K : Fw) (mg : Str → Option Value) (c : Option T) : TT := fun σ H Q => ∃ F, tC (Gb K mg F) c σ H Q
def gOb (K : Fw) (mg : Str → Option Value) (tg : Tg) : TG := fun v σ H Q => ∃ F, gOf (Gb K mg F) tg v σ H Q
def tIb (K : Fw) (mg : Str → Option Value) (it : I) : TI := fun σ H R => ∃ F, tI (Gb K mg F) it σ H R

section
variable {G : Gx} {α β γ : Type}
theorem PostR.turn {us ts : List Tm} {σ' σ : St} {ws vs : List V} {K : Fw} {mg : Str → Option Value} {F : Frm} {r : Res α} {g : α → Rho → Res β} {k : β → Rho → Res γ} {Q : γ → Rho → Prop}
    (p : PostR G ts σ vs ((r.bind g).noExc.bind k) Q) : PostR (Gb K mg F) us σ' ws r fun a ρ => PostR G ts σ vs ((g a ρ).noExc.bind k) Q := by
  cases r with
  | ok a ρ => exact p
  | exc x ρ => exact p.elim
  | bad => exact p.elim
theorem PostR.onTg {ts : List Tm} {σ : St} {vs : List V} {o : Option Rho} {g : Unit → Rho → Res β} {k : β → Rho → Res γ} {Q : γ → Rho → Prop} (p : PostR G ts σ vs (((onTg o).bind g).noExc.bind k) Q) :
    ∃ ρ, o = some ρ ∧ PostR G ts σ vs ((g () ρ).noExc.bind k) Q := by
  cases o with
  | none => exact p.elim
  | some ρ => exact ⟨ρ, rfl, p⟩
theorem Res.bind_assoc {r : Res α} {f : α → Rho → Res β} {g : β → Rho → Res γ} : (r.bind f).bind g = r.bind fun a ρ => (f a ρ).bind g := by
  cases r <;> rfl
theorem drop_lt {α : Type} {ds : List α} {i : Nat} {d : α} (h : ds[i]? = some d) : ds.drop i = d :: ds.drop (i + 1) := by
  obtain ⟨hi, e⟩ := List.getElem?_eq_some_iff.mp h
  rw [List.drop_eq_getElem_cons hi, e]
end

theorem lcL_cons {turn : D → Rho → Res (Option D)} {d : D} {ds acc : List D} {ρ : Rho} : lcL turn (d :: ds) acc ρ = (turn d ρ).bind fun o ρ' => match o with
    | some x => if Sm (acc.length + 1) then lcL turn ds (acc ++ [x]) ρ' else .bad
    | none => lcL turn ds acc ρ' := by rw [lcL] <;> rfl
theorem lcL2_cons {turn : D → List D → Rho → Res (List D)} {d : D} {ds acc : List D} {ρ : Rho} : lcL2 turn (d :: ds) acc ρ = (turn d acc ρ).bind fun acc' ρ' => lcL2 turn ds acc' ρ' := by rw [lcL2]
theorem lcL2_nil {turn : D → List D → Rho → Res (List D)} {acc : List D} {ρ : Rho} : lcL2 turn [] acc ρ = .ok acc ρ := by rw [lcL2]
theorem lcL_nil {turn : D → Rho → Res (Option D)} {acc : List D} {ρ : Rho} : lcL turn [] acc ρ = .ok acc ρ := by rw [lcL]
theorem lcT_post {G : Gx} {β γ : Type} {ts us : List Tm} {σ : St} {vs ws : List V} {K : Fw} {mg : Str → Option Value} {F : Frm} {own : List Nat} {tg : Tg} {ec : Rho → Res Bool} {ee : Rho → Res Tm} {d : D} {ρ : Rho} {g : Option D → Rho → Res β} {k : β → Rho → Res γ} {Q : γ → Rho → Prop}
    (p : PostR G ts σ vs (((lcT own tg ec ee d ρ).bind g).noExc.bind k) Q) : ∃ ρ3, asgTg tg d (clr ρ own) = some ρ3 ∧ ∀ σ', PostR (Gb K mg F) us σ' ws (ec ρ3) fun b ρ4 => match b with
      | true => PostR (Gb K mg F) us σ' ws (ee ρ4) fun t ρ5 => ∃ x ρ6, t.get ρ5 = some x ∧ t.esc ρ5 = some ρ6 ∧ PostR G ts σ vs ((g (some x) ρ6).noExc.bind k) Q
      | false => PostR G ts σ vs ((g none ρ4).noExc.bind k) Q := by
  unfold lcT at p
  rw [Res.bind_assoc] at p
  obtain ⟨ρ3, ea, p3⟩ := p.onTg
  refine ⟨ρ3, ea, fun σ' => ?_⟩
  rw [Res.bind_assoc] at p3
  refine p3.turn.mono fun b ρ4 p4 => ?_
  cases b with
  | false => exact p4
  | true =>
    have p4' : PostR G ts σ vs ((((ee ρ4).bind fun t ρ5 => (take t ρ5).bind fun x ρ6 => (.ok (some x) ρ6 : Res (Option Ev.D))).bind g).noExc.bind k) Q := p4
    rw [Res.bind_assoc] at p4'
    refine p4'.turn.mono fun t ρ5 p5 => ?_
    rw [Res.bind_assoc] at p5
    cases etk : take t ρ5 with
    | exc x ρ' => exact absurd etk take_noexc
    | bad => rw [etk] at p5; exact p5.elim
    | ok x ρ6 =>
      rw [etk] at p5
      unfold take at etk
      split at etk
      · rename_i h1 h2
        cases etk
        exact ⟨_, _, h1, h2, p5⟩
      · cases etk
theorem nb_ow {d : D} {ts : List Tm} : NoBr (.ow d :: ts.map dim) := fun t ht i e => by
  rcases List.mem_cons.mp ht with z | z
  · rw [z] at e; cases e
  · exact dim_nobr ts t z i e
theorem rst_clr {ρ1 ρ2 : Rho} {ow : List Nat} : rst ρ1 (clr ρ2 ow) ow = rst ρ1 ρ2 ow := by
  apply List.ext_getElem?
  intro j
  by_cases hm : j ∈ ow
  · by_cases hj : j < ρ2.length
    · rw [rst_in hm hj, rst_in hm (by rw [clr_length]; exact hj)]
    · rw [List.getElem?_eq_none_iff.mpr (by rw [rst_length, clr_length]; omega), List.getElem?_eq_none_iff.mpr (by rw [rst_length]; omega)]
  · rw [rst_out hm, rst_out hm, clr_out hm]
/-- the list grows by a turn's value -/
theorem Conf.app1 {K : Fw} {F : Frm} {ρ5 ρ6 : Rho} {t : Tm} {acc : List D} {ts : List Tm} {σ : St} {v : V} {A : Addr} {vs : List V} {H : Hp} {x : D} (c : Conf K F ρ5 (t :: .ow (.list acc) :: ts) σ (v :: .ref A :: vs) H) (h1 : t.get ρ5 = some x) (h2 : t.esc ρ5 = some ρ6) :
    ∃ xs, H A = some (.lst xs) ∧ xs.length = acc.length ∧ Conf K F ρ6 (.ow (.list (acc ++ [x])) :: ts) σ (.ref A :: vs) (upd H A (.lst (xs ++ [v]))) := by
  obtain ⟨S5, as5, bs5, c5⟩ := c
  obtain ⟨S6, as6, bs6, e6, c6, r6⟩ := c5.took h1 h2
  have c6' := c6
  cases c6'.tms with
  | cons h _ =>
    cases h with
    | ow ow n =>
      cases ow with
      | lst hD5 rp => exact ⟨_, hD5, rp.length, S6, as6, _, c6.chg (.lst upd_same (rp.app (.cons r6 .nil)))⟩

section
variable {G : Gx} {σ : St} {H : Hp} {Q : VK}
theorem lc_red {own : List (Str × Nat)} {tg : Tg} {it : I} {c : Option T} {e : E} (hw : (tgIx tg).all (own.map (·.2)).contains = true) (q : tE G (.lc own tg it c e) σ H Q) :
    tLc (tI G it) (gOb G.K G.mg tg) (tCb G.K G.mg c) (tEb G.K G.mg e) (own.map (·.2)) σ H Q := by
  have hw' : ∀ i ∈ tgIx tg, i ∈ own.map (·.2) := fun i hi => by simpa using List.all_eq_true.mp hw i hi
  obtain ⟨ρ, ts, vs, c0, p⟩ := q
  unfold evalE at p
  refine ⟨ρ, ts, vs, c0, p.bind.mono fun ds ρ1 p1 J H1 S1 as1 bs1 c1 wk => ?_⟩
  split at p1
  · rename_i hpl
    generalize own.map (·.2) = ow at hw' p1 hpl
    intro D hD
    generalize htn : lcT ow tg (fun ρ => evalC c ρ) (fun ρ => evalE e ρ) = turn at p1
    refine ⟨fun i m H => ∃ ρ acc, Conf G.K (G.F.from_ S1) (clr ρ ow) (.ow (.list acc) :: ts.map dim) (wipe σ ow) (.ref D :: vs) H ∧ i ≤ ds.length ∧ m = ds.length - i ∧ PostR G ts σ vs ((lcL turn (ds.drop i) acc ρ).noExc.bind _) _, ⟨ds.length, ρ1, [], ?_, Nat.zero_le _, rfl, p1⟩, ?_⟩
    · obtain ⟨as', c2⟩ := c1.dim.start.clr (dim_nobr ts) ow
      exact ⟨S1, as', D :: bs1, c2.own hD (.lst upd_same .nil)⟩
    · rintro i m H ⟨ρ2, acc, cc, hi, rfl, p2⟩
      obtain ⟨S2, as2, bs2, c2⟩ := cc
      have eS : Ext S1 S2 := c2.s0
      by_cases hlt : i < ds.length
      · have hd : ds[i]? = some ds[i] := List.getElem?_eq_getElem hlt
        obtain ⟨go, yl⟩ := wk.step i H _ (eS.trans c2.sub) hd
        refine .inr ⟨go, _, fun H' w => ⟨ds.length - (i + 1), by omega, w⟩, fun x H' y => ?_⟩
        obtain ⟨S3, e3, c3⟩ := c2.yld eS (yl x H' y)
        rw [drop_lt hd, lcL_cons] at p2
        conv at p2 => lhs; lhs; arg 1; lhs; rw [← htn]
        obtain ⟨ρ3, ea, p3⟩ := lcT_post p2
        refine ⟨G.F.from_ S1, _, _, _, _, ρ3, nb_ow, ⟨S3, as2, bs2, c3⟩, ea, fun σ2 cc4 hl hj => ?_⟩
        have hwp : wipe σ2 ow = wipe σ ow := by
          rw [wipe_eq (σ := wipe σ ow) hl fun j hj' => hj j fun hm => hj' (hw' j hm), wipe_twice]
        refine ⟨hwp, G.F.from_ S1, ρ3, _, _, cc4, (p3 σ2).mono fun k ρ4 p4 H4 cc5 => ?_⟩
        have fin : ∀ {ρ acc' H'}, Conf G.K (G.F.from_ S1) ρ (.ow (.list acc') :: ts.map dim) σ2 (.ref D :: vs) H' → Conf G.K (G.F.from_ S1) (clr ρ ow) (.ow (.list acc') :: ts.map dim) (wipe σ ow) (.ref D :: vs) H' := fun {ρ acc' H'} c => by
          rw [← hwp]
          exact c.clr nb_ow ow
        cases k with
        | false => exact ⟨ρ4, acc, fin cc5, hlt, rfl, p4⟩
        | true =>
          refine ⟨G.F.from_ S1, ρ4, _, _, cc5, p4.mono fun t ρ5 ⟨x, ρ6, h1, h2, p5⟩ v H5 cc6 => ?_⟩
          obtain ⟨xs, hA, hlx, cc7⟩ := cc6.app1 h1 h2
          by_cases hz : Sm (acc.length + 1)
          · refine ⟨xs, hA, by rw [← line_eq, hlx]; exact hz, ρ6, acc ++ [x], fin cc7, hlt, rfl, ?_⟩
            simp only [if_pos hz] at p5
            exact p5
          · simp only [if_neg hz] at p5
            exact p5.elim
      · have hi' : i = ds.length := by omega
        subst hi'
        refine .inl ⟨wk.stop _ H (eS.trans c2.sub) (Nat.le_refl _), ?_⟩
        rw [List.drop_length, lcL_nil] at p2
        have p3 : ∀ v H', Conf G.K G.F (rst ρ1 ρ2 ow) (.ow (.list acc) :: ts) σ (v :: vs) H' → Q v H' := p2
        obtain ⟨as', c4⟩ := Cf.fin c1 hpl (t := .ow (.list acc)) (fun i e => by cases e) c2
        rw [rst_clr] at c4
        exact p3 _ _ ⟨S2, as', bs2, c4⟩
  · exact p1.elim
theorem lc2_red {own : List (Str × Nat)} {tg tg1 : Tg} {it it1 : I} {c : Option T} {e : E} (hw : (tgIx tg).all (own.map (·.2)).contains = true) (hv : (tgIx tg1).all (own.map (·.2)).contains = true) (q : tE G (.lc2 own tg it tg1 it1 c e) σ H Q) :
    tLc2 (tI G it) (gOb G.K G.mg tg) tYes (tIb G.K G.mg it1) (gOb G.K G.mg tg1) (tCb G.K G.mg c) (tEb G.K G.mg e) (own.map (·.2)) (tgIx tg1) σ H Q := by
  have hw' : ∀ i ∈ tgIx tg, i ∈ own.map (·.2) := fun i hi => by simpa using List.all_eq_true.mp hw i hi
  have hv' : ∀ i ∈ tgIx tg1, i ∈ own.map (·.2) := fun i hi => by simpa using List.all_eq_true.mp hv i hi
  obtain ⟨ρ, ts, vs, c0, p⟩ := q
  unfold evalE at p
  refine ⟨ρ, ts, vs, c0, p.bind.mono fun ds ρ1 p1 J H1 S1 as1 bs1 c1 wk => ?_⟩
  split at p1
  · rename_i hpl
    generalize own.map (·.2) = ow at hw' hv' p1 hpl
    intro D hD
    generalize htn : lcT (tgIx tg1) tg1 (fun ρ => evalC c ρ) (fun ρ => evalE e ρ) = turn at p1
    generalize htn2 : lcT2 ow tg (fun ρ => evalI it1 ρ) turn = turn2 at p1
    refine ⟨fun i m H => ∃ ρ acc, Conf G.K (G.F.from_ S1) (clr ρ ow) (.ow (.list acc) :: ts.map dim) (wipe σ ow) (.ref D :: vs) H ∧ i ≤ ds.length ∧ m = ds.length - i ∧ PostR G ts σ vs ((lcL2 turn2 (ds.drop i) acc ρ).noExc.bind _) _, ⟨ds.length, ρ1, [], ?_, Nat.zero_le _, rfl, p1⟩, ?_⟩
    · obtain ⟨as', c2⟩ := c1.dim.start.clr (dim_nobr ts) ow
      exact ⟨S1, as', D :: bs1, c2.own hD (.lst upd_same .nil)⟩
    · rintro i m H ⟨ρ2, acc, cc, hi, rfl, p2⟩
      obtain ⟨S2, as2, bs2, c2⟩ := cc
      have eS : Ext S1 S2 := c2.s0
      by_cases hlt : i < ds.length
      · have hd : ds[i]? = some ds[i] := List.getElem?_eq_getElem hlt
        obtain ⟨go, yl⟩ := wk.step i H _ (eS.trans c2.sub) hd
        refine .inr ⟨go, _, fun H' w => ⟨ds.length - (i + 1), by omega, w⟩, fun x H' y => ?_⟩
        obtain ⟨S3, e3, c3⟩ := c2.yld eS (yl x H' y)
        rw [drop_lt hd, lcL2_cons] at p2
        conv at p2 => lhs; lhs; arg 1; lhs; rw [← htn2]; unfold lcT2
        rw [Res.bind_assoc] at p2
        obtain ⟨ρ3, ea, p3⟩ := p2.onTg
        refine ⟨G.F.from_ S1, _, _, _, _, ρ3, nb_ow, ⟨S3, as2, bs2, c3⟩, ea, fun σ2 cc4 hl hj => ?_⟩
        have hwp : wipe σ2 ow = wipe σ ow := by
          rw [wipe_eq (σ := wipe σ ow) hl fun j hj' => hj j fun hm => hj' (hw' j hm), wipe_twice]
        refine ⟨hwp, ?_⟩
        show tIb G.K G.mg it1 σ2 H' _
        refine ⟨G.F.from_ S1, ρ3, _, _, cc4, ?_⟩
        rw [Res.bind_assoc] at p3
        refine p3.turn.mono fun ds1 ρ4 p4 J1 H4 S4 as4 bs4 c4 wk1 => ?_
        -- the inner loop
        refine ⟨fun j k H => ∃ ρ acc, Conf G.K ((G.F.from_ S1).from_ S4) (clr ρ (tgIx tg1)) (.ow (.list acc) :: ts.map dim) (wipe σ2 (tgIx tg1)) (.ref D :: vs) H ∧ j ≤ ds1.length ∧ k = ds1.length - j ∧
          PostR G ts σ vs (((lcL turn (ds1.drop j) acc ρ).bind fun acc' ρ' => lcL2 turn2 (ds.drop (i + 1)) acc' ρ').noExc.bind _) _, ⟨ds1.length, ρ4, acc, ?_, Nat.zero_le _, rfl, p4⟩, ?_⟩
        · obtain ⟨as', c5⟩ := (Cf.start c4).clr nb_ow (tgIx tg1)
          exact ⟨S4, as', bs4, c5⟩
        · rintro j k H ⟨ρ5, acc5, cc5, hj5, rfl, p5⟩
          obtain ⟨S5, as5, bs5, c5⟩ := cc5
          have eS5 : Ext S4 S5 := c5.s0
          by_cases hlt1 : j < ds1.length
          · have hd1 : ds1[j]? = some ds1[j] := List.getElem?_eq_getElem hlt1
            obtain ⟨go1, yl1⟩ := wk1.step j H _ (eS5.trans c5.sub) hd1
            refine .inr ⟨go1, _, fun H' w => ⟨ds1.length - (j + 1), by omega, w⟩, fun x H' y => ?_⟩
            obtain ⟨S6, e6, c6⟩ := c5.yld eS5 (yl1 x H' y)
            rw [drop_lt hd1, lcL_cons, Res.bind_assoc] at p5
            conv at p5 => lhs; lhs; arg 1; lhs; rw [← htn]
            obtain ⟨ρ6, ea1, p6⟩ := lcT_post p5
            refine ⟨(G.F.from_ S1).from_ S4, _, _, _, _, ρ6, nb_ow, ⟨S6, as5, bs5, c6⟩, ea1, fun σ3 cc7 hl7 hj7 => ?_⟩
            have hwp1 : wipe σ3 (tgIx tg1) = wipe σ2 (tgIx tg1) := by
              rw [wipe_eq (σ := wipe σ2 (tgIx tg1)) hl7 fun j hj' => hj7 j hj', wipe_twice]
            refine ⟨hwp1, (G.F.from_ S1).from_ S4, ρ6, _, _, cc7, (p6 σ3).mono fun k ρ7 p7 H7 cc8 => ?_⟩
            have fin : ∀ {ρ acc' H'}, Conf G.K ((G.F.from_ S1).from_ S4) ρ (.ow (.list acc') :: ts.map dim) σ3 (.ref D :: vs) H' → Conf G.K ((G.F.from_ S1).from_ S4) (clr ρ (tgIx tg1)) (.ow (.list acc') :: ts.map dim) (wipe σ2 (tgIx tg1)) (.ref D :: vs) H' := fun {ρ acc' H'} c => by
              rw [← hwp1]
              exact c.clr nb_ow _
            cases k with
            | false => exact ⟨ρ7, acc5, fin cc8, hlt1, rfl, p7⟩
            | true =>
              refine ⟨(G.F.from_ S1).from_ S4, ρ7, _, _, cc8, p7.mono fun t ρ8 ⟨x, ρ9, h1, h2, p8⟩ v H8 cc9 => ?_⟩
              obtain ⟨xs, hA, hlx, cc10⟩ := cc9.app1 h1 h2
              by_cases hz : Sm (acc5.length + 1)
              · refine ⟨xs, hA, by rw [← line_eq, hlx]; exact hz, ρ9, acc5 ++ [x], fin cc10, hlt1, rfl, ?_⟩
                simp only [if_pos hz] at p8
                exact p8
              · simp only [if_neg hz] at p8
                exact p8.elim
          · have hj' : j = ds1.length := by omega
            subst hj'
            refine .inl ⟨wk1.stop _ H (eS5.trans c5.sub) (Nat.le_refl _), ρ5, acc5, ?_, hlt, rfl, ?_⟩
            · have c6 := Cf.back c4 c5
              obtain ⟨as', c7⟩ := c6.clr nb_ow ow
              rw [clr_sub hv', wipe_sub hv', hwp] at c7
              exact ⟨S5, as', bs5, c7⟩
            · rw [List.drop_length, lcL_nil] at p5
              exact p5
      · have hi' : i = ds.length := by omega
        subst hi'
        refine .inl ⟨wk.stop _ H (eS.trans c2.sub) (Nat.le_refl _), ?_⟩
        rw [List.drop_length, lcL2_nil] at p2
        have p3 : ∀ v H', Conf G.K G.F (rst ρ1 ρ2 ow) (.ow (.list acc) :: ts) σ (v :: vs) H' → Q v H' := p2
        obtain ⟨as', c4⟩ := Cf.fin c1 hpl (t := .ow (.list acc)) (fun i e => by cases e) c2
        rw [rst_clr] at c4
        exact p3 _ _ ⟨S2, as', bs2, c4⟩
  · exact p1.elim
end
end Ev

-- EvT
/-! EvT: a list is extended by a tuple. -/
namespace Ev
open PySem L2 PySem.Spec
theorem extT_ (p : Addr) (us : Array Value) (m : Nat) (r : Addr) (ws : Array Value) (m2 : Nat) (q : Option Addr) (z : Array (Option Value)) (g0 : ¬(!us.isEmpty && Builtin.List.listTooLong (us.size + ws.size)) = true) (g1 : us.size ≤ sizeLine) (g2 : us.size + ws.size ≤ sizeLine + 1) :
    Meets (Builtin.«list.extend» ⟨[.ref p, .ref r], []⟩) (fun _ R s => s.heap.get? p = some { cls := .type "list", dict := none, data := .seq us m, slots := #[] } ∧ s.heap.get? r = some { cls := .type "tuple", dict := q, data := .seq ws m2, slots := z } ∧ R (.ok (.ret Value.none)) { s with heap := s.heap.update p (Obj.mapSeq fun y => y ++ ws), toks := s.toks }) := by
  refine .of_wp fun prog w A R s hs => ?_
  obtain ⟨h1, h2, h3, h4, h5⟩ := s
  obtain ⟨hp, hr, hq⟩ := hs
  have f1 := AutoSeq1.idx_int
  have hz' : (us ++ ws).size ≤ sizeLine + 1 := by rw [Array.size_append]; exact g2
  wp_walk using (wpAny_updateSeq hp rfl (hz := g1) (_hz' := hz')), wpAny_loadPart' hp, wpAny_loadPart' hr
  exact ⟨_, rfl, hq⟩
section
variable {X : Cx}
def rExtT (K : PySem.W.Frag) : V → List V → Hp → VK → Prop := fun x vs H Q => ∃ l b xs zs, x = .ref l ∧ vs = [.ref b] ∧ H l = some (.lst xs) ∧ SqT K H b zs ∧ xs.length + zs.length ≤ sizeLine ∧ Q .non (upd H l (.lst (xs ++ zs)))
theorem mt_extT : MtM X "list.extend" (rExtT X.K) := by
  intro pins s σ H x vs v us Q I rx rv h
  obtain ⟨l, b, xs, zs, rfl, rfl, hH, hB, hz, q⟩ := h
  cases rx
  obtain ⟨u, rfl, ru⟩ := rv.one
  cases ru
  obtain ⟨_, i1, n1, r1, hl, e⟩ := I.lstM hH
  obtain ⟨i2, r2, pt, _⟩ := I.tuple hB
  obtain ⟨⟨cl, dd, da, sl⟩, ho, hc, n2, hd⟩ := id pt
  simp only at hc hd
  subst hc hd
  have hl2 := r2.length
  have hs : i1.toArray.size + i2.toArray.size ≤ sizeLine := by rw [List.size_toArray, List.size_toArray]; omega
  have hg : ¬ (!i1.toArray.isEmpty && Builtin.List.listTooLong (i1.toArray.size + i2.toArray.size)) = true := by
    rw [notLongL hs, Bool.and_false]
    decide
  refine call_meets F.slot_list_extend ⟨_, e, rfl⟩ F.entry_list_extend (F.args_list_extend_2 _ _) (extT_ l i1.toArray n1 b i2.toArray n2 dd sl hg (by rw [List.size_toArray]; omega) (by omega)) ⟨e, ho, ?_⟩
  refine ⟨.non, _, I.lset (its' := i1 ++ i2) hH e (by simp) (r1.append r2) ?_, rfl, q⟩
  rw [List.length_append]
  omega
def rExtA (K : PySem.W.Frag) : V → List V → Hp → VK → Prop := fun x vs H Q => rExtend x vs H Q ∨ rExtT K x vs H Q
theorem mt_extA : MtM X "list.extend" (rExtA X.K) := fun pins s σ H x vs v us Q I rx rv h => h.elim (mt_extend pins s σ H x vs v us Q I rx rv) (mt_extT pins s σ H x vs v us Q I rx rv)
end
end Ev

-- EvM
/-! EvM: methods of owned lists. -/
namespace Ev
open PySem L2

section
variable {K : Fw} {F : Frm} {H H' S S' : Hp} {σ : St} {ρ ρ' : Rho} {ts : List Tm} {vs : List V} {as bs : List Addr}
/-- the list of an owned slot -/
theorem Cf.ownL {i : Nat} {ds : List D} (c : Cf K F S ρ ts σ vs H as bs) (h : ownL ρ i = some ds) : ∃ a xs, σ[i]? = some (some (V.ref a)) ∧ H a = some (.lst xs) ∧ Rps K S xs ds ∧
    ∀ {xs' : List V} {ds' : List D}, Rps K S xs' ds' → ∃ ρ', chgI (fun _ => some ds') i ρ = some ρ' ∧ Cf K F S ρ' ts σ vs (upd H a (.lst xs')) as bs := by
  have key : ∀ s, ρ[i]? = some s → (∀ d', ∃ s', (s = .ow (.list ds) ∧ s' = Sl.ow d') ∨ ∃ k, s = .io k (.list ds) ∧ s' = Sl.io k d') → ∃ a xs, σ[i]? = some (some (V.ref a)) ∧ H a = some (.lst xs) ∧ Rps K S xs ds ∧
      ∀ {xs' : List V} {ds' : List D}, Rps K S xs' ds' → ∃ ρ', chgI (fun _ => some ds') i ρ = some ρ' ∧ Cf K F S ρ' ts σ vs (upd H a (.lst xs')) as bs := fun s es hs => by
    obtain ⟨o, x1, x2, x3, h1, h2, h3, h4⟩ := c.slots.at es
    have hsl : ∃ a xs, o = some (.ref a) ∧ x2 = [a] ∧ H a = some (.lst xs) ∧ Rps K S xs ds ∧ (F.Hin a = none ∨ a ∈ F.io) ∧ ∀ {H' : Hp} {d' : D}, OwnAt K H' S a d' → ∀ s', (s = .ow (.list ds) ∧ s' = Sl.ow d') ∨ (∃ k, s = .io k (.list ds) ∧ s' = Sl.io k d') → SlR K F H' S s' (some (.ref a)) [a] := by
      obtain ⟨s', q⟩ := hs .none
      rcases q with ⟨rfl, rfl⟩ | ⟨k, rfl, rfl⟩
      · cases h2 with
        | ow ow n =>
          cases ow with
          | lst hA r =>
            refine ⟨_, _, rfl, rfl, hA, r, .inl n, fun {H' d'} ow' s' q => ?_⟩
            rcases q with ⟨_, rfl⟩ | ⟨k, e, _⟩
            · exact .ow ow' n
            · cases e
      · cases h2 with
        | io ow n =>
          cases ow with
          | lst hA r =>
            refine ⟨_, _, rfl, rfl, hA, r, .inr (List.mem_of_getElem? n), fun {H' d'} ow' s' q => ?_⟩
            rcases q with ⟨e, _⟩ | ⟨k', e, rfl⟩
            · cases e
            · cases e; exact .io ow' n
    obtain ⟨a, xs, rfl, rfl, hA, r, hin, mk⟩ := hsl
    refine ⟨a, xs, h1, hA, r, fun {xs' ds'} r' => ?_⟩
    obtain ⟨s', q⟩ := hs (.list ds')
    have hne : ∀ b ∈ x1 ++ x3, b ≠ a := by
      have nd := (List.nodup_append.mp c.nd).1
      rw [h3] at nd
      have nd' : (x1 ++ a :: x3).Nodup := by simpa using nd
      have := (List.nodup_cons.mp (List.perm_middle.nodup_iff.mp nd')).1
      exact fun b hb e => this (e ▸ hb)
    have hnb : ∀ b ∈ bs, b ≠ a := fun b hb e => (List.nodup_append.mp c.nd).2.2 a (by rw [h3]; simp) b hb e.symm
    have sl := h4 (H' := upd H a (.lst xs')) (S' := S) (s' := s') (o' := some (.ref a)) (ys' := [a]) (Same.refl _) (fun b hb o' e => by rw [upd_ne (hne b hb)]; exact e) (mk (.lst upd_same r') s' q)
    have hσ : σ.set i (some (V.ref a)) = σ := by
      obtain ⟨hi, z⟩ := List.getElem?_eq_some_iff.mp h1
      rw [← z]; exact List.set_getElem_self hi
    rw [hσ, ← h3] at sl
    refine ⟨ρ.set i s', ?_, fun b o' e => ?_, c.s0, c.new, fun b o' e n => ?_, fun b hb => ?_, sl, c.tms.mono (Same.refl _) fun b hb o' e => by rw [upd_ne (hnb b hb)]; exact e, c.nd, c.out⟩
    · unfold chgI
      rcases q with ⟨rfl, rfl⟩ | ⟨k, rfl, rfl⟩
      · rw [es]; rfl
      · rw [es]; rfl
    · rw [upd_ne]
      · exact c.sub b o' e
      · rintro rfl
        rw [c.out b (by rw [h3]; simp)] at e; cases e
    · rw [upd_ne]
      · exact c.keep b o' e n
      · rintro rfl
        rcases hin with q | q
        · rw [q] at e; cases e
        · exact n q
    · by_cases e : b = a
      · subst e; exact ⟨_, upd_same⟩
      · rw [upd_ne e]; exact c.iod b hb
  unfold Ev.ownL at h
  split at h
  · rename_i ds' e
    cases h
    exact key _ e fun d' => ⟨_, .inl ⟨rfl, rfl⟩⟩
  · rename_i k ds' e
    cases h
    exact key _ e fun d' => ⟨_, .inr ⟨k, rfl, rfl⟩⟩
  · cases h
theorem chgI_own {f : List D → Option (List D)} {i : Nat} (h : chgI f i ρ = some ρ') : ∃ ds ds', ownL ρ i = some ds ∧ f ds = some ds' ∧ chgI (fun _ => some ds') i ρ = some ρ' := by
  unfold chgI at h
  unfold Ev.ownL chgI
  split at h
  · rename_i ds e
    obtain ⟨ds', h1, rfl⟩ := Option.map_eq_some_iff.mp h
    refine ⟨ds, ds', rfl, h1, ?_⟩; first | rfl | (rw [e]; rfl)
  · rename_i k ds e
    obtain ⟨ds', h1, rfl⟩ := Option.map_eq_some_iff.mp h
    refine ⟨ds, ds', rfl, h1, ?_⟩; first | rfl | (rw [e]; rfl)
  · cases h
end

section
variable {X : Cx} {N : List Str} {sc : Scope} {G : Gx} {pos p apos cpos : Pos} {a b e : Expr} {ea eb : E} {i : Nat} {x : Str}
theorem chgE_post {us : List Tm} {σ : St} {ws : List V} {ρ : Rho} {f : List D → Option (List D)} {Q : Tm → Rho → Prop} (p : PostR G us σ ws (chgE f i ρ) Q) : ∃ ds ds' ρ', ownL ρ i = some ds ∧ f ds = some ds' ∧ chgI (fun _ => some ds') i ρ = some ρ' ∧ Q (.sh .none) ρ' := by
  unfold chgE at p
  split at p
  · rename_i ρ' h
    obtain ⟨ds, ds', h1, h2, h3⟩ := chgI_own h
    exact ⟨ds, ds', ρ', h1, h2, h3, p⟩
  · exact p.elim
def fewOk (l : List Expr) : Bool := l.all notSt && decide (l.length < 30)
where notSt : Expr → Bool
  | .Starred _ _ => false
  | _ => true
theorem few_one {e : Expr} {env : Env} (hs : starEach [e] env = (false, eval e env) :: starEach [] env) : ((backTo cpos (starEach [e] env)).all (fun x => !x.1) && (backToKw cpos (keywordEach [] env)).all (fun x => x.1.isSome)
      && decide ([e].length + ([] : List Keyword).length + (if ([] : List Keyword).isEmpty then 0 else 1) < 30)) = true := by rw [hs]; rfl
theorem ownL_ty {ρ : Rho} {ts : List Tm} {σ : St} {vs : List V} {H : Hp} (c : Conf G.K G.F ρ ts σ vs H) (h : (ownL ρ i).isSome = true) (K : Fw) : ∃ a, σ[i]? = some (some (V.ref a)) ∧ tyV K "list" (.ref a) H := by
  obtain ⟨ds, h⟩ := Option.isSome_iff_exists.mp h
  obtain ⟨S, as, bs, c⟩ := c
  obtain ⟨a, xs, h1, h2, _⟩ := c.ownL h
  exact ⟨a, h1, .inl ⟨rfl, xs, .inl (.inl h2)⟩⟩
theorem s_app (f : Fit X N sc G) (h : nameOk N sc i x = true) (ha : PE X a (tE G ea)) (hs : starEach [a] X.env = (false, eval a X.env) :: starEach [] X.env) (hl : (apos.endLine == cpos.line) = true) :
    PE X (.Call (.Attribute (.Name x p) "append" apos) [a] [] cpos) (tE G (.app i ea)) := by
  obtain ⟨h1, h2, h3, h4⟩ := nameOk_iff h
  refine PE.imp (pe_bm PySem.F.plainAttrs_list PySem.F.slot_list_append PySem.F.type_list_append mt_append (pe_var (i := i) (by rw [f.hN]; exact h1) (by rw [f.sc]; exact h2) h3 h4) (pa_cons ha pa_nil hs) rfl (few_one hs) hl hs rfl)
    fun σ H Q ⟨ρ, ts, vs, c, q⟩ => ?_
  unfold evalE at q
  split at q
  · rename_i ho
    obtain ⟨A, e1, ty⟩ := ownL_ty c ho (kx X)
    refine ⟨_, e1, ty, ρ, ts, vs, c, q.bind.mono fun t ρ1 p1 v H1 ⟨S, as, bs, c1⟩ => ?_⟩
    obtain ⟨d, ρ2, g1, g2, p2⟩ := take_post p1
    obtain ⟨S', as', bs', e, c2, r⟩ := c1.took g1 g2
    obtain ⟨ds, ds', ρ', k1, k2, k3, k4⟩ := chgE_post p2
    obtain ⟨A', xs, z1, z2, z3, z4⟩ := c2.ownL k1
    rw [e1] at z1
    cases z1
    unfold appAt at k2
    split at k2
    · rename_i hz
      cases k2
      obtain ⟨ρ3, y1, y2⟩ := z4 (z3.app (.cons r .nil))
      rw [k3] at y1
      cases y1
      exact ⟨A, xs, v, rfl, rfl, z2, by rw [← line_eq, z3.length]; exact hz, k4 _ _ ⟨S', as', bs', y2.push .non⟩⟩
    · cases k2
  · exact q.elim
theorem s_ext (f : Fit X N sc G) (h : nameOk N sc i x = true) (ha : PE X a (tE G ea)) (hs : starEach [a] X.env = (false, eval a X.env) :: starEach [] X.env) (hl : (apos.endLine == cpos.line) = true) :
    PE X (.Call (.Attribute (.Name x p) "extend" apos) [a] [] cpos) (tE G (.ext i ea)) := by
  obtain ⟨h1, h2, h3, h4⟩ := nameOk_iff h
  refine PE.imp (pe_bm PySem.F.plainAttrs_list PySem.F.slot_list_extend PySem.F.type_list_extend mt_extA (pe_var (i := i) (by rw [f.hN]; exact h1) (by rw [f.sc]; exact h2) h3 h4) (pa_cons ha pa_nil hs) rfl (few_one hs) hl hs rfl)
    fun σ H Q ⟨ρ, ts, vs, c, q⟩ => ?_
  unfold evalE at q
  split at q
  · rename_i ho
    obtain ⟨A, e1, ty⟩ := ownL_ty c ho (kx X)
    refine ⟨_, e1, ty, ρ, ts, vs, c, q.bind.mono fun t ρ1 p1 v H1 ⟨S, as, bs, c1⟩ => ?_⟩
    split at p1
    · rename_i es hes
      obtain ⟨ds, ds', ρ', k1, k2, k3, k4⟩ := chgE_post p1
      have hb : ∃ B zs, v = .ref B ∧ (H1 B = some (.lst zs) ∨ SqT G.K H1 B zs) ∧ Rps G.K S zs es := by
        unfold newL at hes
        split at hes
        · cases hes
          cases c1.tms with
          | cons h _ =>
            cases h with
            | ow ow n =>
              cases ow with
              | lst hB r => exact ⟨_, _, rfl, .inl hB, r⟩
        · cases hes
          cases c1.tms with
          | cons h _ =>
            cases h with
            | sh r =>
              obtain ⟨B, zs, rfl, hT, r⟩ := Rp.tup_of r
              exact ⟨B, zs, rfl, .inr (c1.sub.t hT), r⟩
        · rename_i j
          split at hes
          · cases hes
          · obtain ⟨B, zs, z1, z2, z3, _⟩ := c1.ownL hes
            cases c1.tms with
            | cons h _ =>
              cases h with
              | br q =>
                rw [z1] at q
                cases q
                exact ⟨B, zs, rfl, .inl z2, z3⟩
        · cases hes
      obtain ⟨B, zs, rfl, hB, r⟩ := hb
      obtain ⟨cs, c2⟩ := c1.drop
      obtain ⟨A', xs, z1, z2, z3, z4⟩ := c2.ownL k1
      rw [e1] at z1
      cases z1
      unfold extAt at k2
      split at k2
      · rename_i hz
        cases k2
        obtain ⟨ρ3, y1, y2⟩ := z4 (z3.app r)
        rw [k3] at y1
        cases y1
        rcases hB with hB | hB
        · exact .inl ⟨A, B, xs, zs, rfl, rfl, z2, hB, by rw [← line_eq, z3.length, r.length]; exact hz, k4 _ _ ⟨S, as, cs, y2.push .non⟩⟩
        · exact .inr ⟨A, B, xs, zs, rfl, rfl, z2, (by rw [f.K] at hB; exact hB), by rw [← line_eq, z3.length, r.length]; exact hz, k4 _ _ ⟨S, as, cs, y2.push .non⟩⟩
      · cases k2
    · exact p1.elim
  · exact q.elim
theorem Rps.erase {K : Fw} {S : Hp} : ∀ {vs : List V} {ds : List D} (n : Nat), Rps K S vs ds → Rps K S (vs.eraseIdx n) (ds.eraseIdx n)
  | _, _, _, .nil => .nil
  | _, _, 0, .cons _ r => r
  | _, _, n + 1, .cons h r => .cons h (Rps.erase n r)
theorem popE_post {us : List Tm} {σ : St} {ws : List V} {ρ : Rho} {k : Option Int} {Q : Tm → Rho → Prop} (p : PostR G us σ ws (popE i k ρ) Q) :
    ∃ ds n d ρ', ownL ρ i = some ds ∧ popIx ds k = some n ∧ ds[n]? = some d ∧ chgI (fun _ => some (ds.eraseIdx n)) i ρ = some ρ' ∧ Q (.sh d) ρ' := by
  unfold popE at p
  split at p
  · exact p.elim
  · rename_i ds h1
    split at p
    · exact p.elim
    · rename_i n h2
      split at p
      · rename_i d ρ' h3 h4
        obtain ⟨ds', ds2, k1, k2, k3⟩ := chgI_own h4
        rw [h1] at k1
        cases k1
        cases k2
        exact ⟨ds, n, d, ρ', h1, h2, h3, k3, p⟩
      · exact p.elim
theorem s_pop0 (f : Fit X N sc G) (h : nameOk N sc i x = true) (hl : (apos.endLine == cpos.line) = true) : PE X (.Call (.Attribute (.Name x p) "pop" apos) [] [] cpos) (tE G (.pop i .no)) := by
  obtain ⟨h1, h2, h3, h4⟩ := nameOk_iff h
  refine PE.imp (pe_bm0 PySem.F.plainAttrs_list PySem.F.slot_list_pop PySem.F.type_list_pop mt_pop (pe_var (i := i) (by rw [f.hN]; exact h1) (by rw [f.sc]; exact h2) h3 h4) rfl hl) fun σ H Q ⟨ρ, ts, vs, c, q⟩ => ?_
  unfold evalE at q
  split at q
  · rename_i ho
    obtain ⟨A, e1, ty⟩ := ownL_ty c ho (kx X)
    have q' : PostR G ts σ vs (popE i none ρ) _ := q
    obtain ⟨ds, n, d, ρ', k1, k2, k3, k4, k5⟩ := popE_post q'
    obtain ⟨S, as, bs, c1⟩ := c
    obtain ⟨A', xs, z1, z2, z3, z4⟩ := c1.ownL k1
    rw [e1] at z1
    cases z1
    unfold popIx at k2
    simp only at k2
    split at k2
    · cases k2
    · cases k2
      obtain ⟨v, y1, y2⟩ := z3.get k3
      have e : xs.eraseIdx (ds.length - 1) = xs.dropLast := by
        rw [← z3.length, List.eraseIdx_length_sub_one]
      have r' := z3.erase (ds.length - 1)
      rw [e] at r'
      obtain ⟨ρ3, w1, w2⟩ := z4 r'
      rw [k4] at w1
      cases w1
      exact ⟨_, e1, ty, A, xs, v, rfl, rfl, z2, by rw [z3.length]; exact y1, k5 _ _ ⟨S, as, bs, w2.push y2⟩⟩
  · exact q.elim
theorem s_pop1 (f : Fit X N sc G) (h : nameOk N sc i x = true) (ha : PE X a (tE G ea)) (hs : starEach [a] X.env = (false, eval a X.env) :: starEach [] X.env) (hl : (apos.endLine == cpos.line) = true) :
    PE X (.Call (.Attribute (.Name x p) "pop" apos) [a] [] cpos) (tE G (.pop i (.so ea))) := by
  obtain ⟨h1, h2, h3, h4⟩ := nameOk_iff h
  refine PE.imp (pe_bm PySem.F.plainAttrs_list PySem.F.slot_list_pop PySem.F.type_list_pop mt_popAt (pe_var (i := i) (by rw [f.hN]; exact h1) (by rw [f.sc]; exact h2) h3 h4) (pa_cons ha pa_nil hs) rfl (few_one hs) hl hs rfl)
    fun σ H Q ⟨ρ, ts, vs, c, q⟩ => ?_
  unfold evalE at q
  split at q
  · rename_i ho
    obtain ⟨A, e1, ty⟩ := ownL_ty c ho (kx X)
    unfold evalO at q
    rw [Res.bind_assoc] at q
    refine ⟨_, e1, ty, ρ, ts, vs, c, q.bind.mono fun t ρ1 p1 v H1 c1' => ?_⟩
    split at p1
    · rename_i j hd
      have p1' : PostR G ts σ vs (popE i (some j) ρ1) _ := p1
      obtain ⟨ds, n, d, ρ', k1, k2, k3, k4, k5⟩ := popE_post p1'
      obtain ⟨S, as, bs, c1⟩ := c1'
      cases Rp.int_of (c1.top hd)
      obtain ⟨cs, c2⟩ := c1.drop
      obtain ⟨A', xs, z1, z2, z3, z4⟩ := c2.ownL k1
      rw [e1] at z1
      cases z1
      unfold popIx at k2
      simp only at k2
      split at k2
      · rename_i hj
        obtain ⟨v, y1, y2⟩ := z3.get k3
        obtain ⟨ρ3, w1, w2⟩ := z4 (z3.erase n)
        rw [k4] at w1
        cases w1
        exact ⟨A, xs, j, n, v, rfl, rfl, z2, hj.1, hj.2, by rw [z3.length]; exact (ixN_seq k2).1, y1, k5 _ _ ⟨S, as, cs, w2.push y2⟩⟩
      · cases k2
    · exact p1.elim
  · exact q.elim
theorem s_clear (f : Fit X N sc G) (h : nameOk N sc i x = true) (hl : (apos.endLine == cpos.line) = true) : PE X (.Call (.Attribute (.Name x p) "clear" apos) [] [] cpos) (tE G (.clear i)) := by
  obtain ⟨h1, h2, h3, h4⟩ := nameOk_iff h
  refine PE.imp (pe_bm0 PySem.F.plainAttrs_list PySem.F.slot_list_clear PySem.F.type_list_clear mt_clear (pe_var (i := i) (by rw [f.hN]; exact h1) (by rw [f.sc]; exact h2) h3 h4) rfl hl) fun σ H Q ⟨ρ, ts, vs, c, q⟩ => ?_
  unfold evalE at q
  split at q
  · rename_i ho
    obtain ⟨A, e1, ty⟩ := ownL_ty c ho (kx X)
    obtain ⟨ds, ds', ρ', k1, k2, k3, k4⟩ := chgE_post q
    cases k2
    obtain ⟨S, as, bs, c1⟩ := c
    obtain ⟨A', xs, z1, z2, z3, z4⟩ := c1.ownL k1
    rw [e1] at z1
    cases z1
    obtain ⟨ρ3, w1, w2⟩ := z4 (xs' := []) (ds' := []) .nil
    rw [k3] at w1
    cases w1
    exact ⟨_, e1, ty, A, xs, rfl, rfl, z2, k4 _ _ ⟨S, as, bs, w2.push .non⟩⟩
  · exact q.elim
theorem newT_at {ρ : Rho} {ts : List Tm} {σ : St} {vs : List V} {S H : Hp} {as bs : List Addr} {t u : Tm} {v w : V} {ds : List D} (c : Cf G.K G.F S ρ (u :: t :: ts) σ (w :: v :: vs) H as bs) (h : newT t ρ = some ds) : ∃ B zs, v = .ref B ∧ H B = some (.lst zs) ∧ Rps G.K S zs ds := by
  unfold newT at h
  split at h
  · cases h
    cases c.tms with
    | cons _ r =>
      cases r with
      | cons h _ =>
        cases h with
        | ow ow n =>
          cases ow with
          | lst hB r => exact ⟨_, _, rfl, hB, r⟩
  · rename_i j
    obtain ⟨B, zs, z1, z2, z3, _⟩ := c.ownL h
    cases c.tms with
    | cons _ r =>
      cases r with
      | cons h _ =>
        cases h with
        | br q =>
          rw [z1] at q
          cases q
          exact ⟨B, zs, rfl, z2, z3⟩
  · cases h
theorem s_rep {l r : Expr} {ea eb : E} {pos : Pos} (ha : PE X l (tE G ea)) (hb : PE X r (tE G eb)) : PE X (.BinOp l .Mult r pos) (tE G (.rep ea eb)) := by
  refine PE.imp (pe_op op_rep ha hb) fun σ H Q ⟨ρ, ts, vs, c, q⟩ => ?_
  unfold evalE at q
  refine ⟨ρ, ts, vs, c, q.bind.mono fun t ρ1 p1 v H1 c1 => ⟨ρ1, t :: ts, v :: vs, c1, p1.bind.weak.mono fun u ρ2 p2 w H2 c2 => ?_⟩⟩
  split at p2
  · rename_i ds k h1 h2
    split at p2
    · rename_i hz
      obtain ⟨z1, z2, z3⟩ := hz
      obtain ⟨S, as, bs, c2⟩ := c2
      obtain ⟨B, zs, rfl, hB, r⟩ := newT_at c2 h1
      cases Rp.int_of (c2.top h2)
      obtain ⟨cs, c3⟩ := c2.drop
      obtain ⟨cs', c4⟩ := c3.drop
      refine ⟨B, k, zs, rfl, rfl, hB, z1, z2, by rw [← line_eq, r.length]; exact z3, fun p hp => p2 _ _ ⟨S, as, _, c4.own hp (.lst upd_same (r.rep _))⟩⟩
    · exact p2.elim
  · exact p2.elim
end
end Ev

-- EvN
/-! EvN: dicts in the IR. -/
namespace Ev
open PySem L2

section
variable {K : Fw} {F : Frm} {H H' S S' : Hp} {σ : St} {ρ ρ' : Rho} {ts : List Tm} {vs : List V} {as bs : List Addr}
/-- what an owned slot holds -/
theorem Cf.ownD {i : Nat} {d : D} (c : Cf K F S ρ ts σ vs H as bs) (h : ownD ρ i = some d) : ∃ a, σ[i]? = some (some (V.ref a)) ∧ OwnAt K H S a d ∧
    ∀ {u : HO} {d' : D}, OwnAt K (upd H a u) S a d' → ∃ ρ', putIo ρ i d' = some ρ' ∧ Cf K F S ρ' ts σ vs (upd H a u) as bs := by
  have key : ∀ s, ρ[i]? = some s → (∀ d', ∃ s', (s = .ow d ∧ s' = Sl.ow d') ∨ ∃ k, s = .io k d ∧ s' = Sl.io k d') → ∃ a, σ[i]? = some (some (V.ref a)) ∧ OwnAt K H S a d ∧
      ∀ {u : HO} {d' : D}, OwnAt K (upd H a u) S a d' → ∃ ρ', putIo ρ i d' = some ρ' ∧ Cf K F S ρ' ts σ vs (upd H a u) as bs := fun s es hs => by
    obtain ⟨o, x1, x2, x3, h1, h2, h3, h4⟩ := c.slots.at es
    have hsl : ∃ a, o = some (.ref a) ∧ x2 = [a] ∧ OwnAt K H S a d ∧ (F.Hin a = none ∨ a ∈ F.io) ∧ ∀ {H' : Hp} {d' : D}, OwnAt K H' S a d' → ∀ s', (s = .ow d ∧ s' = Sl.ow d') ∨ (∃ k, s = .io k d ∧ s' = Sl.io k d') → SlR K F H' S s' (some (.ref a)) [a] := by
      obtain ⟨s', q⟩ := hs .none
      rcases q with ⟨rfl, rfl⟩ | ⟨k, rfl, rfl⟩
      · cases h2 with
        | ow ow n =>
          refine ⟨_, rfl, rfl, ow, .inl n, fun {H' d'} ow' s' q => ?_⟩
          rcases q with ⟨_, rfl⟩ | ⟨k, e, _⟩
          · exact .ow ow' n
          · cases e
      · cases h2 with
        | io ow n =>
          refine ⟨_, rfl, rfl, ow, .inr (List.mem_of_getElem? n), fun {H' d'} ow' s' q => ?_⟩
          rcases q with ⟨e, _⟩ | ⟨k', e, rfl⟩
          · cases e
          · cases e; exact .io ow' n
    obtain ⟨a, rfl, rfl, hA, hin, mk⟩ := hsl
    refine ⟨a, h1, hA, fun {u d'} r' => ?_⟩
    obtain ⟨s', q⟩ := hs d'
    have hne : ∀ b ∈ x1 ++ x3, b ≠ a := by
      have nd := (List.nodup_append.mp c.nd).1
      rw [h3] at nd
      have nd' : (x1 ++ a :: x3).Nodup := by simpa using nd
      have := (List.nodup_cons.mp (List.perm_middle.nodup_iff.mp nd')).1
      exact fun b hb e => this (e ▸ hb)
    have hnb : ∀ b ∈ bs, b ≠ a := fun b hb e => (List.nodup_append.mp c.nd).2.2 a (by rw [h3]; simp) b hb e.symm
    have sl := h4 (H' := upd H a u) (S' := S) (s' := s') (o' := some (.ref a)) (ys' := [a]) (Same.refl _) (fun b hb o' e => by rw [upd_ne (hne b hb)]; exact e) (mk r' s' q)
    have hσ : σ.set i (some (V.ref a)) = σ := by
      obtain ⟨hi, z⟩ := List.getElem?_eq_some_iff.mp h1
      rw [← z]; exact List.set_getElem_self hi
    rw [hσ, ← h3] at sl
    refine ⟨ρ.set i s', ?_, fun b o' e => ?_, c.s0, c.new, fun b o' e n => ?_, fun b hb => ?_, sl, c.tms.mono (Same.refl _) fun b hb o' e => by rw [upd_ne (hnb b hb)]; exact e, c.nd, c.out⟩
    · unfold putIo
      rcases q with ⟨rfl, rfl⟩ | ⟨k, rfl, rfl⟩
      · rw [es]
      · rw [es]
    · rw [upd_ne]
      · exact c.sub b o' e
      · rintro rfl
        rw [c.out b (by rw [h3]; simp)] at e; cases e
    · rw [upd_ne]
      · exact c.keep b o' e n
      · rintro rfl
        rcases hin with q | q
        · rw [q] at e; cases e
        · exact n q
    · by_cases e : b = a
      · subst e; exact ⟨_, upd_same⟩
      · rw [upd_ne e]; exact c.iod b hb
  unfold Ev.ownD at h
  split at h
  · rename_i d' e
    cases h
    exact key _ e fun d' => ⟨_, .inl ⟨rfl, rfl⟩⟩
  · rename_i k d' e
    cases h
    exact key _ e fun d' => ⟨_, .inr ⟨k, rfl, rfl⟩⟩
  · cases h
theorem dctD_of {o : Option D} {kvs : List (D × D)} (h : dctD o = some kvs) : o = some (.dict kvs) ∧ opq kvs = false := by
  unfold dctD at h
  split at h
  · split at h
    · cases h
    · rename_i ho
      cases h
      exact ⟨rfl, by simpa using ho⟩
  · cases h
/-- .. a dict -/
theorem Cf.ownDct {i : Nat} {kvs : List (D × D)} (c : Cf K F S ρ ts σ vs H as bs) (h : dctD (Ev.ownD ρ i) = some kvs) : ∃ a o es, σ[i]? = some (some (V.ref a)) ∧ H a = some (dN K.w a o es) ∧ Ents K S es kvs ∧
    ∀ {o' : Obj} {es' : List (NestedKey × Addr × V)} {kvs' : List (D × D)}, Ents K S es' kvs' → ∃ ρ', putIo ρ i (.dict kvs') = some ρ' ∧ Cf K F S ρ' ts σ vs (upd H a (dN K.w a o' es')) as bs := by
  obtain ⟨a, h1, h2, h3⟩ := c.ownD (dctD_of h).1
  cases h2 with
  | dct k1 k2 => exact ⟨a, _, _, h1, k1, k2, fun {o' es' kvs'} r => h3 (.dct upd_same r)⟩
end

section
variable {X : Cx} {N : List Str} {sc : Scope} {G : Gx} {pos p apos cpos : Pos} {a b e : Expr} {ea eb ek ex ed : E} {i : Nat} {x : Str}
theorem s_dnew (f : Fit X N sc G) : PE X (.Dict [] [] pos) (tE G .dnew) := by
  refine ⟨fun pins s σ H Q I ⟨ρ, ts, vs, ⟨S, as, bs, c⟩, q⟩ => ?_⟩
  obtain ⟨o, ok⟩ := dct_new (h := s.heap) (P := X.prog) (w := X.w) I.big
  have hn := I.hok.fresh (Nat.le_refl s.heap.objs.size)
  refine wpAny_Dict_empty ⟨.ref s.heap.objs.size, _, I.laid (a := s.heap.objs.size) (o := dN X.w s.heap.objs.size o []) (t' := s.toks) (fun _ _ q => Heap.get?_push_of_some _ q) (Nat.le_refl _) (ok _), rfl, ?_⟩
  have hw : dN X.w s.heap.objs.size o [] = dN G.K.w s.heap.objs.size o [] := by rw [f.K]
  rw [hw]
  exact q _ _ ⟨S, as, _, c.own hn (.dct upd_same .nil)⟩
theorem s_odict (f : Fit X N sc G) {i j : Int} {k1 k2 : Nat} {p1 p2 : Pos} : PE X (.Dict [some (.Constant (.int i) k1 p1)] [.Constant (.int j) k2 p2] pos) (tE G (.odict i j)) := by
  refine PE.imp (pe_disp (pps_cons pe_int pe_int pps_nil) rfl rfl (by simp) (by simp)) fun σ H Q ⟨ρ, ts, vs, ⟨S, as, bs, c⟩, q⟩ => ?_
  intro p hp
  refine ⟨upd_same, [(.inl i, .int j)], rfl, by simp, ?_⟩
  rw [upd_upd]
  exact q _ _ ⟨_, as, bs, (c.see hp).push (.odc upd_same rfl)⟩
theorem dict_pairs {prog : Program} {w : World} {K : Type} [DecidableEq K] {knd : HeapKind prog w K} {A : Around} {E : Value → Shared → Prop} {s : Shared} {env : Env} {keys : List (Option Expr)} {values : List Expr} {pos : Pos} {pairs : List (Sem Value × Sem Value)} {Q : Value → Shared → Prop} (hu : knd.room A)
    (hshape : (evalEachOpt keys env).zip ((evalEach values env).map fun v => do let x ← v; standAt pos; pure x) = pairs.map fun p => (some p.1, p.2)) (h0 : pairs ≠ []) (hlen : pairs.length ≤ 15)
    (h : wpAny (model prog w) A (evalPairs pairs) (fun vs s₁ => ∃ ps, CarriesH knd s₁.heap vs ps ∧ s₁.heap.DictOfH knd s.heap.objs.size [] ∧
      ∀ h' tk, h'.DictOfH knd s.heap.objs.size (storedAllH [] ps) → Heap.SameBut s.heap.objs.size s₁.heap h' → Q (.ref s.heap.objs.size) { s₁ with heap := h', toks := tk }) E
      { s with heap := s.heap.push { cls := .type "dict", data := .dict #[] } }) :
    wpAny (model prog w) A (eval (.Dict keys values pos) env) Q E s := by
  rw [arm_eval_Dict, hshape, dictDisplay_pairs pairs h0 (by omega)]
  exact wpAny_bind (wpAny_standAt (wpAny_bind (wpAny_subDictH (knd := knd) (Q := fun d s' => wpAny (model prog w) A (pure (Value.ref d)) Q E s') hu hlen
    (wpAny_mono h (fun vs s₁ h₁ => by obtain ⟨ps, hc, hm, hq⟩ := h₁; exact ⟨ps, hc, hm, fun h' tk a b => wpAny_pure (hq h' tk a b)⟩) fun _ _ e => e))))
theorem pe_go {pins : List (Addr × Obj)} {s : Shared} {σ : L2.St} {H : Hp} {ρ : Rho} {ts : List Tm} {vs : List V} {P : Tm → Rho → Prop} {Qf : Value → Shared → Prop} (ha : PE X a (tE G ea)) (I : Inv X pins σ H s) (c : Conf G.K G.F ρ ts σ vs H)
    (p : PostR G ts σ vs (evalE ea ρ) P) (k : ∀ u s1 v H1 t ρ1, Inv X pins σ H1 s1 → RelV v u → Conf G.K G.F ρ1 (t :: ts) σ (v :: vs) H1 → P t ρ1 → Qf u s1) : wpAny (model X.prog X.w) X.A (eval a X.env) Qf X.xe s :=
  thn (ha.run pins s σ H (fun v H1 => ∃ t ρ1, Conf G.K G.F ρ1 (t :: ts) σ (v :: vs) H1 ∧ P t ρ1) I ⟨ρ, ts, vs, c, p.mono fun t ρ1 p1 v H1 c1 => ⟨t, ρ1, c1, p1⟩⟩) fun u s1 ⟨v, H1, I1, r1, t, ρ1, c1, p1⟩ => k u s1 v H1 t ρ1 I1 r1 c1 p1
theorem s_d1 (f : Fit X N sc G) (ha : PE X a (tE G ea)) (hb : PE X b (tE G eb)) : PE X (.Dict [some a] [b] pos) (tE G (.d1 ea eb)) := by
  refine ⟨fun pins s σ H Q I ⟨ρ, ts, vs, ⟨S, as, bs, c⟩, q⟩ => ?_⟩
  obtain ⟨o, ok⟩ := dct_new (h := s.heap) (P := X.prog) (w := X.w) I.big
  have hn := I.hok.fresh (Nat.le_refl s.heap.objs.size)
  have I1 := I.laid (a := s.heap.objs.size) (o := dN X.w s.heap.objs.size o []) (h' := s.heap.push { cls := .type "dict", data := .dict #[] }) (t' := s.toks) (fun _ _ q => Heap.get?_push_of_some _ q) (Nat.le_refl _) (ok _)
  have hw : ∀ o es, dN X.w s.heap.objs.size o es = dN G.K.w s.heap.objs.size o es := fun o es => by rw [f.K]
  rw [hw] at I1
  have c0 : Conf G.K G.F ρ (.ow (.dict []) :: ts) σ (.ref s.heap.objs.size :: vs) _ := ⟨S, as, _, c.own hn (.dct (upd_same (o := dN G.K.w s.heap.objs.size o [])) .nil)⟩
  unfold evalE at q
  have q1 : PostR G (.ow (.dict []) :: ts) σ (.ref s.heap.objs.size :: vs) (evalE ea ρ) _ := q.bind.weak
  refine dict_pairs (knd := nestedKind X.prog X.w) (pairs := pairTrees [some a] [b] X.env pos) (by show X.A.units + 8 < cLine; have := f.un; omega) (zip_pairTrees [some a] [b] X.env pos rfl rfl) (by simp [pairTrees]) (by simp [pairTrees]) (pairTrees_cons_walk ?_)
  refine pe_go ha I1 c0 q1 fun u s1 v H1 t ρ1 I1 r1 c1 p1 => ?_
  obtain ⟨kd, ρ2, g1, g2, p2⟩ := take_post p1
  obtain ⟨S1, as1, bs1, c1⟩ := c1
  obtain ⟨S1', as1', bs1', e1, c2⟩ := c1.esc g1 g2
  refine pe_go hb I1 ⟨S1', as1', bs1', c2⟩ p2.bind.weak.weak fun u2 s2 v2 H2 t2 ρ3 I2 r2 c3 p3 => ?_
  obtain ⟨vd, ρ4, g3, g4, p4⟩ := take_post p3
  obtain ⟨S2, as2, bs2, c3⟩ := c3
  obtain ⟨S2', as2', bs2', e2, c4⟩ := c3.esc g3 g4
  split at p4
  · rename_i hk
    obtain ⟨k, hk⟩ := Option.isSome_iff_exists.mp hk
    have rv : Rp G.K S2' v2 vd := by
      cases c4.tms with
      | cons h _ => cases h with
        | sh h => exact h
    obtain ⟨cs5, c5⟩ := c4.drop
    have rk : Rp G.K S2' v kd := by
      cases c5.tms with
      | cons h _ => cases h with
        | sh h => exact h
    obtain ⟨cs6, c6⟩ := c5.drop
    obtain ⟨od, hd⟩ : ∃ o2, H2 s.heap.objs.size = some (dN X.w s.heap.objs.size o2 []) := by
      cases c6.tms with
      | cons h _ => cases h with
        | ow h n => cases h with
          | dct h r => cases r; exact ⟨_, by rw [hw]; exact h⟩
    obtain ⟨xs, dd, pe, hm, zz, zz2⟩ := dct_of (kvs := []) (S := S2') I2 c6.sub hd .nil
    cases pe
    have rk' : Rp (kx X) S2' v kd := by rw [← f.K]; exact rk
    obtain ⟨kb, rfl⟩ := key_ref rk' hk
    cases r1
    obtain ⟨k1, k2, _⟩ := keyT_of hk
    refine pairTrees_nil_walk ⟨[(k, kb, u2)], ⟨rfl, rfl, ⟨nested_of I2 _ (rk'.ext c6.sub) k1 rfl, k2⟩, True.intro⟩, dd, fun h' tk dk hs => ?_⟩
    have pe : EV [(k, kb, v2)] (storedAllH [] [(k, kb, u2)]) := .cons ⟨rfl, rfl, r2⟩ .nil
    have he : ∃ q, h'.get? s.heap.objs.size = some q := let ⟨q, _, _, hq, _⟩ := dk; ⟨q, hq⟩
    obtain ⟨o3, ok3⟩ := dN_ok (P := X.prog) (w := X.w) (by simp [sizeLine_eq]) hm pe dk
    have c7 := c6.chg (.dct (upd_same (o := dN G.K.w s.heap.objs.size o3 [(k, kb, v2)])) (.cons rk hk rv .nil))
    rw [← hw] at c7
    exact ⟨.ref s.heap.objs.size, _, d_write I2 (by rw [hd]; exact True.intro) hs he (ok3 _), rfl, p4 _ _ ⟨S2', as2', _, c7⟩⟩
  · exact p4.elim
theorem getD1_of {xd : D} {d kd : D} {own : Bool} {r : D} (h : getD1 xd d kd = some (own, r)) : ∃ kvs k, d = .dict kvs ∧ opq kvs = false ∧ keyT kd = some k ∧ own = false ∧ r = (dLook kvs kd).getD xd := by
  unfold getD1 at h
  split at h
  · split at h
    · cases h
    · rename_i ho
      split at h
      · rename_i hk
        cases h
        obtain ⟨k, hk⟩ := Option.isSome_iff_exists.mp hk
        exact ⟨_, k, rfl, by simpa using ho, hk, rfl, rfl⟩
      · cases h
  · cases h
theorem few_two {e e' : Expr} {env : Env} (hs : starEach [e, e'] env = (false, eval e env) :: starEach [e'] env) (hs2 : starEach [e'] env = (false, eval e' env) :: starEach [] env) : ((backTo cpos (starEach [e, e'] env)).all (fun x => !x.1) && (backToKw cpos (keywordEach [] env)).all (fun x => x.1.isSome)
      && decide ([e, e'].length + ([] : List Keyword).length + (if ([] : List Keyword).isEmpty then 0 else 1) < 30)) = true := by rw [hs, hs2]; rfl
/-- the receiver of a dict's method -/
theorem dct_recv {ρ1 : Rho} {t : Tm} {ts : List Tm} {σ : L2.St} {v : V} {vs : List V} {H1 : Hp} {u : Value} {pins : List (Addr × Obj)} {s1 : Shared} {kvs : List (D × D)} (f : Fit X N sc G) (I1 : Inv X pins σ H1 s1) (r1 : RelV v u) (c1 : Conf G.K G.F ρ1 (t :: ts) σ (v :: vs) H1) (hd : dctD (t.get ρ1) = some kvs) :
    ∃ a, v = .ref a ∧ u = .ref a ∧ s1.TypeIs (.ref a) "dict" ∧ ∀ b, Value.ref a = .ref b → ∃ ob, s1.heap.get? b = some ob ∧ ob.dict = none := by
  obtain ⟨e1, ho⟩ := dctD_of hd
  obtain ⟨S, as, bs, c1⟩ := c1
  obtain ⟨a, rfl, r⟩ := c1.top e1
  obtain ⟨o', es, hA, r⟩ := r.dn ho
  cases (show u = .ref a from r1)
  rw [f.K] at hA r
  obtain ⟨xs, dd, _⟩ := dct_of I1 c1.sub hA r
  exact ⟨a, rfl, rfl, dd.typeIs, fun b e => by cases e; obtain ⟨ob, _, _, h1, h2, _⟩ := dd; exact ⟨ob, h1, h2.2.1⟩⟩
theorem s_dgt1 {o : Expr} (f : Fit X N sc G) (ho : PE X o (tE G ed)) (hk : PE X a (tE G ek)) (hbase : attributeBase o "get" X.env (eval o X.env) = eval o X.env) (hs : starEach [a] X.env = (false, eval a X.env) :: starEach [] X.env) (hl : (apos.endLine == cpos.line) = true) :
    PE X (.Call (.Attribute o "get" apos) [a] [] cpos) (tE G (.dgt1 ed ek)) := by
  refine ⟨fun pins s σ H Q I ⟨ρ, ts, vs, c, q⟩ => ?_⟩
  unfold evalE at q
  refine wpAny_Call_method hbase (few_one hs) hl PySem.F.plainAttrs_dict PySem.F.slot_dict_get PySem.F.type_dict_get (pe_go ho I c q.bind fun u s1 v H1 t ρ1 I1 r1 c1 p1 => ?_)
  split at p1
  · rename_i kvs hd
    obtain ⟨A, rfl, rfl, d1, d2⟩ := dct_recv f I1 r1 c1 hd
    refine ⟨d1, d2, ?_⟩
    rw [hs]
    refine Calls.callWith_builtin rfl (Calls.evalArgs_plain (Calls.spliced_cons (pe_go hk I1 c1 p1.bind.weak fun u2 s2 v2 H2 t2 ρ2 I2 r2 c2 p2 => Calls.spliced_nil ?_)))
    obtain ⟨d, kd, own, r, g1, g2, g3, g4⟩ := op2_post p2
    obtain ⟨kvs', k, rfl, ho', hk', rfl, rfl⟩ := getD1_of g3
    obtain ⟨S, as, bs, c2⟩ := c2
    obtain ⟨A', e, r⟩ := c2.top2 g1
    cases e
    obtain ⟨o', es, hA, r⟩ := r.dn ho'
    have ry : Rp G.K S v2 kd := by obtain ⟨_, _, ds, rfl⟩ := keyT_of hk'; exact c2.top g2
    obtain ⟨cs, c3⟩ := c2.drop
    obtain ⟨cs, c4⟩ := c3.drop
    rw [f.K] at hA r ry
    exact dct_get1 f.un I2 c2.sub hA r ry hk' r2 fun w w' s' I' rw' rd => ⟨w, H2, I', rw', g4 _ _ ⟨S, as, cs, c4.push (by rw [f.K]; exact rd)⟩⟩
  · exact p1.elim
theorem s_dgt2 {o : Expr} (f : Fit X N sc G) (ho : PE X o (tE G ed)) (hk : PE X a (tE G ek)) (hx : PE X b (tE G ex)) (hbase : attributeBase o "get" X.env (eval o X.env) = eval o X.env) (hs : starEach [a, b] X.env = (false, eval a X.env) :: starEach [b] X.env)
    (hs2 : starEach [b] X.env = (false, eval b X.env) :: starEach [] X.env) (hl : (apos.endLine == cpos.line) = true) :
    PE X (.Call (.Attribute o "get" apos) [a, b] [] cpos) (tE G (.dgt2 ed ek ex)) := by
  refine ⟨fun pins s σ H Q I ⟨ρ, ts, vs, c, q⟩ => ?_⟩
  unfold evalE at q
  refine wpAny_Call_method hbase (few_two hs hs2) hl PySem.F.plainAttrs_dict PySem.F.slot_dict_get PySem.F.type_dict_get (pe_go ho I c q.bind fun u s1 v H1 t ρ1 I1 r1 c1 p1 => ?_)
  split at p1
  · rename_i kvs hd
    obtain ⟨A, rfl, rfl, d1, d2⟩ := dct_recv f I1 r1 c1 hd
    refine ⟨d1, d2, ?_⟩
    rw [hs, hs2]
    refine Calls.callWith_builtin rfl (Calls.evalArgs_plain (Calls.spliced_cons (pe_go hk I1 c1 p1.bind.weak fun u2 s2 v2 H2 t2 ρ2 I2 r2 c2 p2 => Calls.spliced_cons (pe_go hx I2 c2 p2.bind.weak.weak fun u3 s3 v3 H3 t3 ρ3 I3 r3 c3 p3 => Calls.spliced_nil ?_))))
    obtain ⟨xd, ρ4, g1, g2, p4⟩ := take_post p3
    obtain ⟨d, kd, own, r, g1', g2', g3, g4⟩ := op2_post p4
    obtain ⟨kvs', k, rfl, ho', hk', rfl, rfl⟩ := getD1_of g3
    obtain ⟨S, as, bs, c3⟩ := c3
    obtain ⟨S', as', bs', e, c5⟩ := c3.esc g1 g2
    have rx : Rp G.K S' v3 xd := by
      cases c5.tms with
      | cons h _ => cases h with
        | sh h => exact h
    obtain ⟨cs, c6⟩ := c5.drop
    obtain ⟨A', e', r⟩ := c6.top2 g1'
    cases e'
    obtain ⟨o', es, hA, r⟩ := r.dn ho'
    have ry : Rp G.K S' v2 kd := by obtain ⟨_, _, ds, rfl⟩ := keyT_of hk'; exact c6.top g2'
    obtain ⟨cs, c7⟩ := c6.drop
    obtain ⟨cs, c8⟩ := c7.drop
    rw [f.K] at hA r ry rx
    exact dct_get2 f.un I3 c6.sub hA r ry hk' r2 r3 rx fun w w' s' I' rw' rd => ⟨w, H3, I', rw', g4 _ _ ⟨S', as', cs, c8.push (by rw [f.K]; exact rd)⟩⟩
  · exact p1.elim
theorem sm_of {n : Nat} (h : Sm n) : n ≤ sizeLine := by rw [← line_eq]; exact h
theorem dputI_of {k v : D} {ρ ρ' : Rho} (h : dputI i k v ρ = some ρ') : ∃ kvs ky, dctD (ownD ρ i) = some kvs ∧ keyT k = some ky ∧ Sm (kvs.length + 1) ∧ putIo ρ i (.dict (dPut kvs k v)) = some ρ' := by
  unfold dputI at h
  split at h
  · split at h
    · rename_i kvs h1 h2
      obtain ⟨ky, hk⟩ := Option.isSome_iff_exists.mp h2.1
      exact ⟨kvs, ky, h1, hk, h2.2, h⟩
    · cases h
  · cases h
theorem s_dsf (f : Fit X N sc G) (h : nameOk N sc i x = true) (hk : PE X a (tE G ek)) (hx : PE X b (tE G ex)) (hs : starEach [a, b] X.env = (false, eval a X.env) :: starEach [b] X.env)
    (hs2 : starEach [b] X.env = (false, eval b X.env) :: starEach [] X.env) (hl : (apos.endLine == cpos.line) = true) :
    PE X (.Call (.Attribute (.Name x p) "setdefault" apos) [a, b] [] cpos) (tE G (.dsf i ek ex)) := by
  obtain ⟨h1, h2, h3, h4⟩ := nameOk_iff h
  refine ⟨fun pins s σ H Q I ⟨ρ, ts, vs, c, q⟩ => ?_⟩
  unfold evalE at q
  split at q
  · rename_i kvs hd
    obtain ⟨S, as, bs, c⟩ := c
    obtain ⟨A, ob, es, hσ, hA, r, _⟩ := c.ownDct hd
    refine wpAny_Call_method rfl (few_two hs hs2) hl PySem.F.plainAttrs_dict PySem.F.slot_dict_setdefault PySem.F.type_dict_setdefault (thn ((pe_var (i := i) (by rw [f.hN]; exact h1) (by rw [f.sc]; exact h2) h3 h4).run pins s σ H (fun v H1 => v = .ref A ∧ H1 = H) I ⟨_, hσ, rfl, rfl⟩) fun u s1 ⟨v, H1, I1, r1, e1, e2⟩ => ?_)
    subst e1 e2
    cases r1
    rw [f.K] at hA r
    obtain ⟨xs, dd, _⟩ := dct_of I1 c.sub hA r
    refine ⟨dd.typeIs, fun b e => by cases e; obtain ⟨ob, _, _, h1, h2, _⟩ := dd; exact ⟨ob, h1, h2.2.1⟩, ?_⟩
    rw [hs, hs2]
    refine Calls.callWith_builtin rfl (Calls.evalArgs_plain (Calls.spliced_cons (pe_go hk I1 ⟨S, as, bs, c⟩ q.bind fun u2 s2 v2 H2 t2 ρ2 I2 r2 c2 p2 => ?_)))
    obtain ⟨kd, ρ3, g1, g2, p3⟩ := take_post p2
    obtain ⟨S2, as2, bs2, c2⟩ := c2
    obtain ⟨S3, as3, bs3, e3, c3⟩ := c2.esc g1 g2
    refine Calls.spliced_cons (pe_go hx I2 ⟨S3, as3, bs3, c3⟩ p3.bind.weak fun u3 s3 v3 H3 t3 ρ4 I3 r3 c4 p4 => Calls.spliced_nil ?_)
    obtain ⟨xd, ρ5, g3, g4, p5⟩ := take_post p4
    obtain ⟨S4, as4, bs4, c4⟩ := c4
    obtain ⟨S5, as5, bs5, e5, c5⟩ := c4.esc g3 g4
    have rx : Rp G.K S5 v3 xd := by
      cases c5.tms with
      | cons h _ => cases h with
        | sh h => exact h
    obtain ⟨cs6, c6⟩ := c5.drop
    have ry : Rp G.K S5 v2 kd := by
      cases c6.tms with
      | cons h _ => cases h with
        | sh h => exact h
    obtain ⟨cs7, c7⟩ := c6.drop
    split at p5
    · rename_i kvs' hd'
      obtain ⟨A', ob', es', hσ', hA', r', put⟩ := c7.ownDct hd'
      rw [hσ] at hσ'
      cases hσ'
      split at p5
      · rename_i ρ6 hput
        obtain ⟨kvs2, ky, e1, hky, hsm, hp2⟩ := dputI_of hput
        rw [hd'] at e1
        cases e1
        rw [f.K] at hA' r'
        have ry' : Rp (kx X) S5 v2 kd := by rw [← f.K]; exact ry
        obtain ⟨kb, rfl⟩ := key_ref ry' hky
        cases r2
        refine dct_sdf f.un I3 c7.sub hA' r' ry' hky r3 (by rw [r'.length]; exact sm_of hsm) (fun vd w w' s' hl1 I' rw' rd => ?_) fun o s' hl1 I' => ?_
        · rw [hl1] at p5
          exact ⟨w, H3, I', rw', p5 _ _ ⟨S5, as5, cs7, c7.push (by rw [f.K]; exact rd)⟩⟩
        · rw [hl1] at p5
          obtain ⟨ρ7, y1, y2⟩ := put (o' := o) ((by rw [f.K]; exact r' : Ents G.K S5 es' kvs').put ry hky rx)
          rw [hp2] at y1
          cases y1
          have hw : dN G.K.w A o (putE es' ky kb v3) = dN X.w A o (putE es' ky kb v3) := by rw [f.K]
          rw [hw] at y2
          exact ⟨v3, _, I', r3, p5 _ _ ⟨S5, as5, cs7, y2.push rx⟩⟩
      · exact p5.elim
    · exact p5.elim
  · exact q.elim
/-- d[k] = v -/
def rSetN (K : Fw) : V → V → V → Hp → (Hp → Prop) → Prop := fun o i v H Q => ∃ (a : Addr) (ob : Obj) (es : List (NestedKey × Addr × V)) (kvs : List (D × D)) (S : Hp) (kd : D) (k : NestedKey), o = .ref a ∧ Ext S H ∧ H a = some (dN K.w a ob es) ∧ Ents K S es kvs ∧ Rp K S i kd ∧ keyT kd = some k ∧ es.length + 1 ≤ sizeLine ∧
  ∀ o' b, i = .ref b → Q (upd H a (dN K.w a o' (putE es k b v)))
theorem set_dN (hu : X.A.units + 66 < cLine) : PSet X (rSetN (kx X)) := by
  intro pins s σ H o i v ov iv u Q I ro ri rv ⟨a, ob, es, kvs, S, kd, k, e, hS, hA, r, rk, hk, hz, q⟩
  subst e
  cases (show ov = .ref a from ro)
  obtain ⟨b, rfl⟩ := key_ref rk hk
  cases (show iv = .ref b from ri)
  exact dct_set hu I hS hA r rk hk rv hz fun o' s' I' => ⟨_, I', q o' b rfl⟩
end
end Ev

-- EvB
/-! EvB: lists and tuples turned about. -/
namespace Ev
open PySem L2 PySem.Spec PyProof.Rows PySem.Calls
section
variable {prog : Program} {w : World} {A : Around} {E : Value → Shared → Prop} {s : Shared}
theorem back_places (n : Nat) : Builtin.Slice.slicePlaces ((n : Int) - 1) (-1) (-1) = n := by
  unfold Builtin.Slice.slicePlaces
  have h1 : ¬ ((-1 : Int) > 0) := by omega
  have h2 : (- -1 : Int) = 1 := by decide
  simp only [h1, if_false, h2, Int.ediv_one]
  split <;> omega
theorem back_pick (xs : Array Value) : ((List.range xs.size).filterMap fun (m : Nat) => xs[((xs.size : Int) - 1 + (m : Int) * -1).toNat]?).toArray = xs.toList.reverse.toArray := by
  congr 1
  have e : ∀ n ≤ xs.size, ((List.range n).filterMap fun (m : Nat) => xs[((xs.size : Int) - 1 + (m : Int) * -1).toNat]?) = xs.toList.reverse.take n := by
    intro n
    induction n with
    | zero => intro _; rfl
    | succ n ih =>
      intro hn
      rw [List.range_succ, List.filterMap_append, ih (by omega)]
      have h1 : ((xs.size : Int) - 1 + (n : Int) * -1).toNat = xs.size - 1 - n := by omega
      have h2 : n < xs.toList.reverse.length := by simp; omega
      rw [List.take_succ_eq_append_getElem h2]
      congr 1
      simp only [List.filterMap_cons, List.filterMap_nil, h1]
      rw [Array.getElem?_eq_getElem (by omega)]
      simp [List.getElem_reverse]
  rw [e xs.size (Nat.le_refl _), List.take_of_length_le (by simp)]
theorem back_applied {sl : Addr} {vs : Value} {n : Nat} {Q : Int × Int × Nat → Shared → Prop} (hs : s.heap.IsSliceOf sl .none .none vs) (ps : IsPart vs (some (-1))) (h : Q ((n : Int) - 1, -1, n) s) : wpAny (model prog w) A (Builtin.Slice.sliceApplied (.ref sl) (pure (n : Int))) Q E s := by
  obtain ⟨ob, h1, h2, h3⟩ := id hs
  unfold Builtin.Slice.sliceApplied Builtin.Slice.sliceFields
  refine wpAny_bind (wpAny_bind (wpAny_field h1 h3 (x := .none) rfl (wpAny_bind (wpAny_field h1 h3 (x := .none) rfl (wpAny_bind (wpAny_field h1 h3 (x := vs) rfl (wpAny_pure ?_)))))))
  refine wpAny_bind (HT.slicePart_ ps ?_)
  show wpAny _ _ (if ((-1 : Int) == 0) = true then _ else _) _ _ s
  rw [if_neg (by decide)]
  refine wpAny_bind (slicePart_none (wpAny_bind (slicePart_none (wpAny_bind (wpAny_pure ?_)))))
  show wpAny _ _ (pure ((n : Int) - 1, (-1 : Int), Builtin.Slice.slicePlaces ((n : Int) - 1) (-1) (-1))) _ _ s
  rw [back_places]
  exact wpAny_pure h
theorem back_tuple {t sl : Addr} {items : Array Value} {vs : Value} {Q : Value → Shared → Prop} (ht : IsTup s.heap t items) (hs : s.heap.IsSliceOf sl .none .none vs) (ps : IsPart vs (some (-1)))
    (h : Q (.ref s.heap.objs.size) { s with heap := s.heap.push { cls := .type "tuple", data := .seq items.toList.reverse.toArray } }) (hsz : items.size ≤ sizeLine) : wpAny (model prog w) A (getItem (.ref t) (.ref sl)) Q E s := by
  have fits : sizeOk (.seq items.toList.reverse.toArray) := by
    show items.toList.reverse.toArray.size ≤ sizeLine
    rw [List.size_toArray, List.length_reverse, Array.length_toList]
    exact hsz
  obtain ⟨ob, h1, h2, h3⟩ := id hs
  have isS : s.TypeIs (.ref sl) "slice" := ⟨ob, h1, h2⟩
  unfold getItem
  try with_reducible refine wpAny_holding ?_
  first | refine wpAny_bind (wpAny_pure ?_) | skip
  refine wpAny_bind (wpAny_sequenceKey ht.typeIs (by decide) ?_)
  refine wpAny_bind (wpAny_callSpecial?_slot (name := Str.ofString "__getitem__") ht.typeIs PyProof.Rows.slot_tuple_getitem (wpAny_call_entry PyProof.Rows.slot_tuple_getitem ht.typeIs entry_tuple_getitem ?_ (args_tuple_getitem _ _)))
  show wpAny _ _ (Builtin.Tuple.tupleItemsOf (.ref t) >>= _) _ _ s
  refine wpAny_bind (tupleItemsOf_ ht (wpAny_bind (wpAny_typeOf isS ?_)))
  rw [if_pos (by decide)]
  refine wpAny_bind (back_applied hs ps ?_)
  have hno : ¬ ((((items.size : Int) - 1) == 0 && (-1 : Int) == 1 && items.size == items.size) = true) := by
    intro q
    rw [Bool.and_eq_true, Bool.and_eq_true] at q
    exact absurd q.1.2 (by decide)
  show wpAny _ _ (if (((items.size : Int) - 1) == 0 && (-1 : Int) == 1 && items.size == items.size) = true then _ else _) _ _ s
  rw [if_neg hno, back_pick]
  first
    | exact wpAny_bind (m := Builtin.Tuple.tupleExact _) (wpAny_newObj_type (wpAny_pure ⟨_, rfl, wpAny_pure h⟩) fits)
    | exact wpAny_bind (m := Builtin.Tuple.tupleExact _) (wpAny_newObj_type (wpAny_bind (wpAny_pure (wpAny_pure ⟨_, rfl, wpAny_pure h⟩))) fits)
    | exact wpAny_bind (wpAny_bind (m := Builtin.Tuple.tupleExact _) (wpAny_newObj_type (wpAny_pure (wpAny_pure ⟨_, rfl, wpAny_pure h⟩)) fits))
    | exact wpAny_bind (wpAny_bind (m := Builtin.Tuple.tupleExact _) (wpAny_newObj_type (wpAny_pure ⟨_, rfl, wpAny_pure h⟩) fits))
end
def tBack (K : PySem.W.Frag) (te : TE) : TE := fun σ H Q => te σ H fun x H1 => ∃ a xs, x = .ref a ∧ ((SqL K H1 a xs ∧ ∀ p, H1 p = none → Q (.ref p) (upd H1 p (.lst xs.reverse))) ∨ (SqT K H1 a xs ∧ ∀ p, H1 p = none → Q (.ref p) (upd H1 p (.tup xs.reverse))))
/-- x[::-1] -/
theorem pe_back {X : Cx} {e : Expr} {te : TE} {k : Nat} {p1 p2 p3 pos : Pos} (he : PE X e te) : PE X (.Subscript e (.Slice none none (some (.UnaryOp .USub (.Constant (.int 1) k p1) p2)) p3) pos) (tBack X.K te) := by
  refine ⟨fun pins s σ H Q I h => ?_⟩
  refine Subscript_ (thn (he.run pins s σ H _ I h) fun v s1 ⟨x, H1, I1, r1, a, xs, ex, q⟩ => ?_)
  subst ex
  cases r1
  have minus : PO X (some (.UnaryOp .USub (.Constant (.int 1) k p1) p2)) (tPart (tUn (rU fun i => .int (-i)) (L2.tC (.int 1)))) := po_some (pe_un un_neg pe_int)
  refine wpAny_Slice (thn (po_none.run pins s1 σ H1 (fun o H2 => o = none ∧ H2 = H1) I1 ⟨rfl, rfl⟩) fun vl s2 ⟨l, H2, I2, pl, el, e2⟩ => ?_)
  subst el e2
  refine thn (po_none.run pins s2 σ H2 (fun o H3 => o = none ∧ H3 = H2) I2 ⟨rfl, rfl⟩) fun vu s3 ⟨u, H3, I3, pu, eu, e3⟩ => ?_
  subst eu e3
  refine thn (minus.run pins s3 σ H3 (fun o H4 => o = some (-1) ∧ H4 = H3) I3 ⟨1, rfl, -1, rfl, rfl, rfl⟩) fun vs s4 ⟨o, H4, I4, ps, eo, e4⟩ => ?_
  subst eo e4
  cases pl
  cases pu
  have I5 : Inv X pins σ H4 { s4 with heap := s4.heap.push { cls := .type "slice", data := .fields #[.none, .none, vs] } } := I4.kept (t' := s4.toks) fun b ob q => Heap.get?_push_of_some _ q
  show wpAny (model X.prog X.w) X.A (subscriptTail e (.Slice none none (some (.UnaryOp .USub (.Constant (.int 1) k p1) p2)) p3) (.ref a) (.ref s4.heap.objs.size)) (EP X pins σ Q) X.xe { s4 with heap := s4.heap.push { cls := .type "slice", data := .fields #[.none, .none, vs] } }
  rcases q with ⟨hx, q⟩ | ⟨hx, q⟩
  · obtain ⟨its, r, ht, hz⟩ := I5.list hx
    have hlen := r.length
    refine tail_any (ops := [.ref a, .ref s4.heap.objs.size]) ht.isList.typeIs (PySem.slot_list_getitem.lookup) ?_ (by with_unfolding_all rfl)
    refine wpAny_getItem_list_slice ht.isList (Heap.IsSliceOf.new _ .none .none vs) .none .none ps (by decide) ?_ (by rw [List.size_toArray]; omega)
    rw [PySem.W.krv_pick]
    exact ⟨.ref _, _, I5.laid (t' := s4.toks) (o := .lst xs.reverse) (fun b ob q => Heap.get?_push_of_some _ q) (Nat.le_refl _) ⟨by rw [List.length_reverse]; exact hz, _, 0, r.reverse, Heap.get?_push_size _ rfl⟩, rfl, q _ (I5.hok.fresh (Nat.le_refl _))⟩
  · obtain ⟨its, r, ht, hz⟩ := I5.tuple hx
    have hlen := r.length
    refine tail_any (ops := [.ref a, .ref s4.heap.objs.size]) ht.typeIs (PyProof.Rows.slot_tuple_getitem.lookup) ?_ (by with_unfolding_all rfl)
    refine back_tuple ht (Heap.IsSliceOf.new _ .none .none vs) ps ?_ (by rw [List.size_toArray]; omega)
    exact ⟨.ref _, _, I5.laid (t' := s4.toks) (o := .tup xs.reverse) (fun b ob q => Heap.get?_push_of_some _ q) (Nat.le_refl _) ⟨by rw [List.length_reverse]; exact hz, _, r.reverse, IsTup.new _ _⟩, rfl, q _ (I5.hok.fresh (Nat.le_refl _))⟩
section
variable {X : Cx} {N : List Str} {sc : Scope} {G : Gx} {a : Expr} {ea : E} {pos p1 p2 p3 : Pos} {k : Nat}
theorem s_rev (f : Fit X N sc G) (ha : PE X a (tE G ea)) : PE X (.Subscript a (.Slice none none (some (.UnaryOp .USub (.Constant (.int 1) k p1) p2)) p3) pos) (tE G (.rev ea)) := by
  refine PE.imp (pe_back ha) fun σ H Q ⟨ρ, ts, vs, c, p⟩ => ?_
  unfold evalE at p
  refine ⟨ρ, ts, vs, c, p.bind.mono fun t ρ1 p1 v H1 c1 => ?_⟩
  obtain ⟨d, own, d', g1, g3, g4⟩ := op1_post p1
  obtain ⟨S, as, bs, c1⟩ := c1
  obtain ⟨cs, c2⟩ := c1.drop
  have kk := kont_of c2 g4
  have tp := f.K ▸ c1.top g1
  unfold revD at g3
  split at g3
  · cases g3
    obtain ⟨q, xs, rfl, h1, r1⟩ := tp
    exact ⟨_, _, rfl, .inl ⟨h1, fun q hq => kk.lst (f.K ▸ r1.rev) hq⟩⟩
  · cases g3
    obtain ⟨q, xs, rfl, h1, r1⟩ := Rp.tup_of tp
    exact ⟨_, _, rfl, .inr ⟨c1.sub.t h1, fun q hq => kk.tup c1.sub (f.K ▸ r1.rev) hq⟩⟩
  · cases g3
end
end Ev

-- EvE0
/-! EvE0: isinstance of a caught exception that may have its own dict. -/
namespace Ev
open PySem L2 PySem.Spec PySem.Calls PyProof.Rows
section
variable {pr : Program} {wd : World} {Ar : Around} {Er : Value → Shared → Prop} {sh : Shared} {K : PySem.W.Frag} {x D : Addr} {ob : Obj} {od : Option Obj}
theorem exc_class {Q : Option Value → Shared → Prop} (T : ExcC K D) (inK : K.In sh.heap) (J : PySem.W.InstAt sh.heap x ob D od) (q : Q (some (.ref D)) { sh with toks := sh.toks + 1 }) : wpAny (model pr wd) Ar (getAttr? (.ref x) "__class__") Q Er sh := by
  obtain ⟨cd, hc, _⟩ := PySem.W.any_some T.hd
  have found : PySem.W.findObj K D od "__class__" = some (.bind (.builtin "getset_descriptor.__get__") (.builtin "object.__class__")) := by
    unfold PySem.W.findObj
    rw [hc, Option.bind_some, T.ha, Option.bind_some]
    simp [T.hn, T.ht]
  obtain ⟨hp, gn, dr, tk, os⟩ := sh
  have l0 := J.type (M := model pr wd)
  have l1 := PySem.W.looks_findIn (M := model pr wd) inK T.hg
  have l2 := PySem.W.looks_findIn (M := model pr wd) inK T.hk
  have l3 := PySem.W.looks_find (M := model pr wd) inK J found
  have isE : PySem.W.Looks (model pr wd) hp (isInstance (.ref x) (.type "BaseException")) true := l0.andThen (PySem.W.looks_subIn inK T.hs)
  have n2 : (Value.builtin "BaseException.__getattribute__" == Value.builtin "object.__getattribute__") = false := by decide +kernel
  have n1 : (onTheHeap (Value.ref D) && Value.builtin "BaseException.__getattribute__" == Value.builtin "object.__getattribute__") = false := by rw [n2]; rfl
  have n0 : (false && onTheHeap (Value.builtin "BaseException.__getattribute__")) = false := rfl
  unfold getAttr? getAttrBy? getAttrBy
  refine wpAny_bind (wpAny_mkText (wpAny_bind (wpAny_attempt (wpAny_holding (wpAny_bind (l0.at (wpAny_bind (l1.at ?_))))))))
  show wpAny _ _ (if (onTheHeap (Value.ref D) && Value.builtin "BaseException.__getattribute__" == Value.builtin "object.__getattribute__") = true then _ else _) _ _ _
  rw [if_neg (by rw [n1]; exact Bool.false_ne_true)]
  unfold getAttrByItsOwn hookBefore
  refine wpAny_bind ?_
  rw [if_pos (by rfl : onTheHeap (Value.ref D) = true)]
  refine l2.at (wpAny_bind (wpAny_attempt (wpAny_holding ?_)))
  unfold callGetattribute
  rw [if_neg (by rw [n0]; exact Bool.false_ne_true)]
  unfold boundAndCalled
  rw [PySem.F.excAttr_ValueError.ga.bind (.ref x)]
  refine wpAny_bind (wpAny_pure ?_)
  show wpAny _ _ (call (.builtin "BaseException.__getattribute__") [.ref x, .str "__class__" tk]) _ _ _
  refine wpAny_call (codeAny_call_builtin PySem.F.excAttr_ValueError.ga.plain PySem.F.entry_bexc_ga ?_)
  refine @PySem.W.check_slot (model pr wd) _ _ ⟨hp, gn, dr, tk + 1, os⟩ "BaseException.__getattribute__" "BaseException" "__getattribute__" (.ref x) [.str "__class__" tk] [] _ (by decide +kernel) (by decide +kernel) isE (PySem.F.args_bexc_ga (.ref x) (.str "__class__" tk)) ?_
  unfold Builtin.«object.__getattribute__»
  refine wpAny_bind (wpAny_of_eq (a := ((Value.ref x : Value), [Value.str "__class__" tk])) (by first | rfl | (simp only [slotArgs]; rfl)) ?_)
  refine wpAny_bind (wpAny_pure (wpAny_bind (l0.at (wpAny_bind (l3.at ?_)))))
  show wpAny _ _ (holding [Value.builtin "object.__class__"] (call (.builtin "getset_descriptor.__get__") [.builtin "object.__class__", .ref x, .ref D]) >>= ret) _ _ _
  refine wpAny_bind (wpAny_holding (wpAny_call (PySem.W.class_get (s := ⟨hp, gn, dr, tk + 1, os⟩) (ox := ob) (od := od) inK J T.hm ?_)))
  refine wpAny_pure ?_
  show wpAny _ _ (handedOut (.ref D)) _ _ _
  rw [PySem.W.handedOut_of (v := .ref D) rfl]
  first
    | exact wpAny_pure (wpAny_pure q)
    | exact wpAny_pure q
    | exact wpAny_pure (wpAny_bind (wpAny_pure (wpAny_pure q)))
theorem exc_kit (T : ExcC K D) : PySem.W.KitX K (.ref x) (.ref D) (fun h => PySem.W.InstAt h x ob D od) where
  ty := fun _ _ _ J => J.type
  it := fun _ _ inK _ => by
    obtain ⟨cd, hc, _⟩ := PySem.W.any_some T.hd
    unfold PySem.W.clsIn at hc
    split at hc
    · rename_i c2 d2 cd2 sl2 e2
      intro _ _ _ _ k q
      unfold isType loadHead
      exact wpAny_bind (wpAny_loadPart (k _ _ (inK _ _ e2)) (wpAny_pure q))
    · cases hc
  ne := fun h tp dd its n sl inK htp => by
    obtain ⟨cd, hc, _⟩ := PySem.W.any_some T.hd
    refine Bool.eq_false_iff.mpr fun q => ?_
    have e : D = tp := Value.ref.inj (beq_iff_eq.mp q)
    subst e
    unfold PySem.W.clsIn at hc
    split at hc
    · rename_i c2 d2 cd2 sl2 e2
      have z := (inK _ _ e2).symm.trans htp
      cases z
    · cases hc
  ca := fun inK J k => exc_class T inK J k
end
/-- isinstance(e, c), e the exception that the suite holds, its dict at dd -/
def rIsX (K : PySem.W.Frag) (D a : Addr) (dd : Option Addr) : List V → Hp → VK → Prop := fun xs h Q => ∃ (c : V) (cv : Value) (b : Bool), xs = [.ref a, c] ∧ (∀ u, RelV c u → u = cv) ∧ PySem.W.kitOne K (.ref D) cv = some b ∧
  (dd = none ∨ ∃ p fs, dd = some p ∧ h p = some (.xd fs)) ∧ Q (.bl b) h
theorem inst_at {X : Cx} {pins : List (Addr × Obj)} {σ : L2.St} {H : Hp} {s : Shared} {a D : Addr} {dd : Option Addr} {oe : Obj} (I : Inv X pins σ H s) (hz : Zc (.ref D) dd oe) (hf : ∃ vs, oe.data = .fields vs) (hg : s.heap.get? a = some oe)
    (hd : dd = none ∨ ∃ p fs, dd = some p ∧ H p = some (.xd fs)) : ∃ od, PySem.W.InstAt s.heap a oe D od := by
  obtain ⟨fv, hv⟩ := hf
  obtain ⟨oc, od, oda, osl⟩ := oe
  obtain ⟨h1, h2⟩ := hz
  dsimp only at h1 h2 hv
  subst h1 h2 hv
  rcases hd with rfl | ⟨p, fs, rfl, e⟩
  · exact ⟨none, hg, rfl, rfl, trivial⟩
  · have y : ObjOk X.prog X.w H s.heap p (.xd fs) := I.hok p _ e
    obtain ⟨mA, hns, _⟩ := y
    obtain ⟨o2, ho, _⟩ := L2.lookIn_ns hns
    exact ⟨some o2, hg, rfl, rfl, ho⟩
theorem call_isX {X : Cx} {a D : Addr} {dd : Option Addr} {oe : Obj} {pn : List (Addr × Obj)} (T : ExcC X.K D) (hz : Zc (.ref D) dd oe) (hf : ∃ vs, oe.data = .fields vs) : CallR (X.suite a ((a, oe) :: pn)) (.builtin "isinstance") (rIsX X.K D a dd) := by
  intro pins s σ H xs us Q I r ⟨c, cv, b, e1, hcv, e, hd, q⟩
  subst e1
  match us, r with
  | [_, _], .cons ra (.cons rb .nil) =>
    cases ra
    cases hcv _ rb
    obtain ⟨od, J⟩ := inst_at I hz hf (I.pin (a, oe) (List.mem_append.mpr (.inl List.mem_cons_self))).1 hd
    exact PySem.W.kia_one (exc_kit T) I.kIn J e (fun z => nomatch z) fun tk => ⟨.bl b, H, I.kept (t' := tk) fun _ _ z => z, rfl, q⟩
/-- isinstance(e, (c, ..)) -/
def rIsT (K : PySem.W.Frag) (D a : Addr) (dd : Option Addr) : List V → Hp → VK → Prop := fun xs h Q => ∃ (t : Addr) (cs : List V) (cvs : List Value) (b : Bool), xs = [.ref a, .ref t] ∧ h t = some (.tup cs) ∧ (∀ us, Vals cs us → us = cvs) ∧ PySem.W.kitAny K (.ref D) cvs = some b ∧
  (dd = none ∨ ∃ p fs, dd = some p ∧ h p = some (.xd fs)) ∧ Q (.bl b) h
theorem call_isT {X : Cx} {a D : Addr} {dd : Option Addr} {oe : Obj} {pn : List (Addr × Obj)} (T : ExcC X.K D) (hz : Zc (.ref D) dd oe) (hf : ∃ vs, oe.data = .fields vs) : CallR (X.suite a ((a, oe) :: pn)) (.builtin "isinstance") (rIsT X.K D a dd) := by
  intro pins s σ H xs us Q I r ⟨t, cs, cvs, b, e1, ht, hcv, e, hd, q⟩
  subst e1
  match us, r with
  | [_, _], .cons ra (.cons rb .nil) =>
    cases ra
    cases rb
    obtain ⟨od, J⟩ := inst_at I hz hf (I.pin (a, oe) (List.mem_append.mpr (.inl List.mem_cons_self))).1 hd
    have y : ObjOk X.prog X.w H s.heap t (.tup cs) := I.hok t _ ht
    obtain ⟨_, its, rv, tt⟩ := y
    have e2 := hcv _ rv
    subst e2
    obtain ⟨⟨c0, d0, da0, sl0⟩, g1, g2, n0, g3⟩ := tt
    dsimp only at g2 g3
    subst g2 g3
    exact PySem.W.kia_tup (exc_kit T) I.kIn J g1 e (fun z => nomatch z) fun tk => ⟨.bl b, H, I.kept (t' := tk) fun _ _ z => z, rfl, q⟩
end Ev

-- EvE
/-! EvE: try with any clauses; what a suite asks of its exception; exceptions that have a field. -/
namespace Ev
open PySem L2

/-- a clause: the class, the name's slot, what its suite wishes -/
structure Cl where
  c : Value
  nm : Option Nat
  ts : Addr → Value → Option Addr → TS
def unEnds (D : Ends) (nm : Option Nat) : Ends := match nm with
  | none => D
  | some i => { nx := fun st h => D.nx (st.set i none) h, rt := D.rt, bk := fun st h => D.bk (st.set i none) h, ct := fun st h => D.ct (st.set i none) h }
def inSt (nm : Option Nat) (a : Addr) (st : St) : St := match nm with
  | none => st
  | some i => st.set i (some (.ref a))
def wCls (K : PySem.W.Frag) (W₀ : WX) (D : Ends) : List Cl → WX
  | [] => W₀
  | q :: r => fun cl dd st h => ∃ b, PySem.W.exmOne K cl q.c = some b ∧ (b = true → ∀ a, h a = none → q.ts a cl dd (unEnds D q.nm) (inSt q.nm a st) h) ∧ (b = false → wCls K W₀ D r cl dd st h)
inductive ClsOk (X : Cx) : List ExceptHandler → List Cl → Prop
  | nil : ClsOk X [] []
  | none {y : Str} {c : Value} {ts : Addr → Value → Option Addr → TS} {s₀ : Stmt} {ss : List Stmt} {q1 q2 : Pos} {hs : List ExceptHandler} {l : List Cl} (hc : Names X y c)
      (hb : ∀ (a : Addr) (o : Obj) (cl : Value) (dd : Option Addr) (pn : List (Addr × Obj)), Zc cl dd o → (∃ fv, o.data = .fields fv) → PSs (X.suite a ((a, o) :: pn)) (s₀ :: ss) (ts a cl dd)) (r : ClsOk X hs l) :
      ClsOk X (.ExceptHandler (some (.Name y q1)) Option.none (s₀ :: ss) q2 :: hs) (⟨c, Option.none, ts⟩ :: l)
  | some {y n : Str} {i : Nat} {c : Value} {ts : Addr → Value → Option Addr → TS} {s₀ : Stmt} {ss : List Stmt} {q1 q2 : Pos} {hs : List ExceptHandler} {l : List Cl} (hc : Names X y c) (hi : X.N[i]? = Option.some n) (hn : X.env.kindOf n = Option.some .local)
      (hb : ∀ (a : Addr) (o : Obj) (cl : Value) (dd : Option Addr) (pn : List (Addr × Obj)), Zc cl dd o → (∃ fv, o.data = .fields fv) → PSs (X.suite a ((a, o) :: pn)) (s₀ :: ss) (ts a cl dd)) (r : ClsOk X hs l) :
      ClsOk X (.ExceptHandler (Option.some (.Name y q1)) (Option.some n) (s₀ :: ss) q2 :: hs) (⟨c, Option.some i, ts⟩ :: l)
/-- THE RULE for try: clauses with names and without -/
theorem ps_tryC {X : Cx} {body : List Stmt} {c₀ : ExceptHandler} {cs : List ExceptHandler} {l : List Cl} {pos : Pos} {tb : WX → TS} {W₀ : WX} (h1 : X.stack = X.env :: X.outer) (h2 : X.env.frame = some X.env.locals) (hN : X.N.Nodup) (tk : Takes X W₀)
    (hb : ∀ (W : WX) (pn : List (Addr × Obj)) (xe : Value → Shared → Prop), Takes (X.tr pn xe) W → PassesOwn (model X.prog X.w) X.A X.env xe → PSs (X.tr pn xe) body (tb W)) (hh : ClsOk X (c₀ :: cs) l) :
    PS X (.Try body (c₀ :: cs) [] [] pos) fun D σ H => tb (wCls X.K W₀ D l) D σ H := by
  refine ⟨fun pins s σ H D I hw => ?_⟩
  have good := I.ok
  have frs1 : X.A.frames = some (X.env :: X.outer) := by rw [good.frames, h1]
  refine wpAny_Try_except ?_
  refine wpAny_mono ((hb (wCls X.K W₀ D l) (X.pn ++ pins) (fun x t => wpAny (model X.prog X.w) X.A (noteFrame x X.env) (fun _ t2 => wpAny (model X.prog X.w) X.A (setFlight x none) (fun _ t3 =>
    wpAny (model X.prog X.w) X.A (handleBy x X.env (c₀ :: cs)) (SP X pins D) X.xe t3) X.xe t2) X.xe t) (fun u t hx => ?_) PassesOwn.looking).run [] s σ H D (I.toTry _) hw) (fun fl t ht => ?_) fun x t ht => ht
  · obtain ⟨a, B, sJ, pins2, σ2, H2, cl, dd, rfl, I2, gr, ups, sk, an, eos, ab, wish⟩ := hx
    have J : Inv X pins σ2 H2 sJ := I2.ofTry good
    have sk2 : Sky B (X.env :: X.outer) a (Zc cl dd) X.env.locals t.heap := by rw [← h1]; exact sk
    show wpAny (model X.prog X.w) X.A (noteFrame (.ref a) X.env) _ _ _
    refine Sky.land Zc.steady frs1 h2 sk2 fun hp fly up2 => ?_
    have J3 : Inv X pins σ2 H2 { t with heap := hp } := J.landed gr fly.1 (ups.trans up2) eos ab
    obtain ⟨ox, fv, hox, hzx, hdx⟩ := fly.there
    have noF : a ∉ frs (X.env :: X.outer) := fun hm => by
      obtain ⟨_, o', e', hnf⟩ := fly.2.2.1.mem hm
      rw [hox] at e'
      cases e'
      exact hnf _ hdx
    have ne1 : a ≠ X.env.locals := fun z => noF (List.mem_filterMap.mpr ⟨X.env, List.mem_cons_self, by rw [h2, z]⟩)
    have ne2 : a ∉ X.fs := fun hm => by
      obtain ⟨e, he, q⟩ := List.mem_filterMap.mp hm
      exact noF (List.mem_filterMap.mpr ⟨e, List.mem_cons_of_mem _ he, q⟩)
    have S3 := J3.suite hox hdx an ne1 ne2
    have all : ∀ {ks : List ExceptHandler} {m : List Cl}, ClsOk X ks m → wCls X.K W₀ D m cl dd σ2 H2 →
        wpAny (model X.prog X.w) X.A (handleBy (.ref a) X.env ks) (SP X pins D) X.xe { t with heap := hp } := by
      intro ks m hk
      have LT : PySem.W.Looks (model X.prog X.w) hp (typeOf (.ref a)) cl := fun A Q E s k q => wpAny_typeOf_ref (k _ _ hox) (by rw [hzx.1]; exact q)
      have ask : ∀ {y : Str} {q1 : Pos} {c : Value} {Q : Value → Shared → Prop} {E : Value → Shared → Prop}, Names X y c → Q c { t with heap := hp } → wpAny (model X.prog X.w) (X.A.mark (some (.ref a))) (eval (.Name y q1) X.env) Q E { t with heap := hp } := fun {y q1 c Q E} nm q => by
        obtain ⟨g1, g2, g3 | ⟨g3, g4, g5⟩⟩ := nm
        · exact ld_glob (X := X.suite a ((a, ox) :: (X.pn ++ pins))) S3 g1 g3 q g2
        · exact ld_blt (X := X.suite a ((a, ox) :: (X.pn ++ pins))) S3 g1 g3 g4 q g5 g2
      have suite : ∀ {Ar : Around} {Q : Unit → Shared → Prop} {E : Value → Shared → Prop}, (∀ (h4 : Heap) (o4 : Obj), Zc cl dd o4 → (∃ v4, o4.data = .fields v4) → Inv (X.suite a ((a, o4) :: (X.pn ++ pins))) [] σ2 H2 { t with heap := h4 } → Q () { t with heap := h4 }) →
          wpAny (model X.prog X.w) Ar (setFlight (.ref a) none) Q E { t with heap := hp } := fun {Ar Q E} k => by
        refine HandSPX.lands_againZ fly fun h4 fly4 up4 => ?_
        have J4 : Inv X pins σ2 H2 { t with heap := h4 } := J.landed gr fly4.1 ((ups.trans up2).trans up4) eos ab
        obtain ⟨o4, v4, g1, g2, g3⟩ := fly4.there
        exact k h4 o4 g2 ⟨_, g3⟩ (J4.suite g1 g3 an ne1 ne2)
      induction hk with
      | nil =>
        intro wz
        refine wpAny_handleBy_nil ?_
        obtain ⟨_, _, _, ox2, v2, T2, oT2, tv2, z1, z2, z3, z4, z5⟩ := id fly
        unfold PySem.passOn
        refine wpAny_bind (wpAny_field z1 z3 z4 ?_)
        rw [if_neg (show ¬ ((Value.ref T2 == Value.none) = true) from by simp)]
        have out : wpAny (model X.prog X.w) X.A (setFlight (.ref a) X.env.frame) (fun _ t4 => wpAny (model X.prog X.w) X.A (throw (.ref a) : Sem Flow) (SP X pins D) X.xe t4) X.xe { t with heap := hp } := by
          rw [h2]
          refine HandSPX.setFlight_upZ fly fun h4 held up4 => wpAny_throw (tk _ _ ?_)
          exact ⟨a, B, sJ, pins, σ2, H2, cl, dd, rfl, J, gr, (ups.trans up2).trans up4, .inr (.inr (by rw [h1]; exact held)), an, eos, ab, wz⟩
        first
          | exact wpAny_bind (wpAny_pure (wpAny_bind out))
          | exact wpAny_bind out
      | @none y c ts s₀ ss q1 q2 hs2 l2 hc hsu r ih =>
        intro wz
        obtain ⟨b, hb1, yes, no⟩ := wz
        refine wpAny_handleBy_cons (codeAny_handlers_test ?_) (by intro q; cases q)
        refine ask hc ((PySem.W.exm_one (M := model X.prog X.w) J3.kIn LT hb1).here ?_)
        cases b with
        | true =>
          refine codeAny_handlers_suite (suite fun h4 o4 k1 k2 S4 => ?_)
          refine wpAny_mono ((hsu a o4 cl dd (X.pn ++ pins) k1 k2).run [] _ _ H2 _ S4 (yes rfl a an)) (fun fl t6 ht => ?_) (fun _ _ z => False.elim z)
          cases fl with
          | next => exact ht.imp fun _ ⟨H6, S6, q6⟩ => ⟨H6, S6.unsuite good, q6⟩
          | brk => exact ht.imp fun _ ⟨H6, S6, q6⟩ => ⟨H6, S6.unsuite good, q6⟩
          | cont => exact ht.imp fun _ ⟨H6, S6, q6⟩ => ⟨H6, S6.unsuite good, q6⟩
          | ret u =>
            obtain ⟨v6, σ6, H6, S6, r6, q6⟩ := ht
            exact ⟨v6, σ6, H6, S6.unsuite good, r6, q6⟩
        | false =>
          show wpAny _ X.A (handleBy (.ref a) X.env hs2) _ _ _
          exact ih (no rfl)
      | @some y n i c ts s₀ ss q1 q2 hs2 l2 hc hi hn hsu r ih =>
        intro wz
        obtain ⟨b, hb1, yes, no⟩ := wz
        refine wpAny_handleBy_cons (codeAny_handlers_test ?_) (by intro q; cases q)
        refine ask hc ((PySem.W.exm_one (M := model X.prog X.w) J3.kIn LT hb1).here ?_)
        cases b with
        | true =>
          refine codeAny_handlers_suite_as (suite fun h4 o4 k1 k2 S4 => ?_)
          refine store_ok (X := X.suite a ((a, o4) :: (X.pn ++ pins))) (v := .ref a) S4 hN hi (.inl hn) rfl (fun t5 S5 => ?_) (.inr hn)
          refine wpAny_mono ((hsu a o4 cl dd (X.pn ++ pins) k1 k2).run [] t5 _ H2 _ S5 (yes rfl a an)) (fun fl t6 ht => ?_) (fun _ _ z => False.elim z)
          have gone : ∀ {σ6 : St} {H6 : Hp} {Q : Shared → Prop}, Inv (X.suite a ((a, o4) :: (X.pn ++ pins))) [] σ6 H6 t6 → (∀ t7, Inv X pins (σ6.set i none) H6 t7 → Q t7) →
              wpAny (model X.prog X.w) X.A (do bindName X.env n .none; unbindBehindTheSuite X.env n q2) (fun _ t7 => Q t7) X.xe t6 := fun {σ6 H6 Q} S6 k => gone_ok (S6.unsuite good) hN hi hn k
          cases fl with
          | next =>
            obtain ⟨σ6, H6, S6, q6⟩ := ht
            exact gone S6 fun t7 J7 => ⟨_, _, J7, q6⟩
          | brk =>
            obtain ⟨σ6, H6, S6, q6⟩ := ht
            exact gone S6 fun t7 J7 => ⟨_, _, J7, q6⟩
          | cont =>
            obtain ⟨σ6, H6, S6, q6⟩ := ht
            exact gone S6 fun t7 J7 => ⟨_, _, J7, q6⟩
          | ret u =>
            obtain ⟨v6, σ6, H6, S6, r6, q6⟩ := ht
            exact gone S6 fun t7 J7 => ⟨_, _, _, J7, r6, q6⟩
        | false =>
          show wpAny _ X.A (handleBy (.ref a) X.env hs2) _ _ _
          exact ih (no rfl)
    exact all hh wish
  · cases fl with
    | next =>
      obtain ⟨σ2, H2, J, q⟩ := ht
      exact wpAny_execs_nil ⟨σ2, H2, J.ofTry good, q⟩
    | brk => exact ht.imp fun _ ⟨H2, J, q⟩ => ⟨H2, J.ofTry good, q⟩
    | cont => exact ht.imp fun _ ⟨H2, J, q⟩ => ⟨H2, J.ofTry good, q⟩
    | ret u =>
      obtain ⟨v, σ2, H2, J, r, q⟩ := ht
      exact ⟨v, σ2, H2, J.ofTry good, r, q⟩

/-! ### what a suite asks of its exception -/
theorem lookup_mem {α : Type} {x : Str} {b : α} : ∀ {t : List (Str × α)}, t.lookup x = some b → (x, b) ∈ t
  | [], h => by cases h
  | (y, c) :: t, h => by
    rw [List.lookup_cons] at h
    cases e : (x == y) with
    | true =>
      rw [e] at h
      cases h
      rw [eq_of_beq e]
      exact List.mem_cons_self
    | false =>
      rw [e] at h
      exact List.mem_cons_of_mem _ (lookup_mem h)
/-- a class by its name -/
def ClsV (mg : Str → Option Value) (x : Str) (v : V) (u : Value) : Prop := (∃ C, mg x = some (.ref C) ∧ v = .ref C ∧ u = .ref C) ∨ (mg x = none ∧ x = "ValueError" ∧ v = .ty "ValueError" ∧ u = .type "ValueError")
theorem ClsV.one {mg : Str → Option Value} {x : Str} {v : V} {u : Value} (h : ClsV mg x v u) : ∀ z, RelV v z → z = u := by
  rcases h with ⟨C, _, rfl, rfl⟩ | ⟨_, _, rfl, rfl⟩
  · exact fun z r => r
  · exact fun z r => r
theorem ClsV.rel {mg : Str → Option Value} {x : Str} {v : V} {u : Value} (h : ClsV mg x v u) : RelV v u := by
  rcases h with ⟨C, _, rfl, rfl⟩ | ⟨_, _, rfl, rfl⟩
  · exact rfl
  · exact rfl
inductive ClsVs (mg : Str → Option Value) : List Str → List V → List Value → Prop
  | nil : ClsVs mg [] [] []
  | cons {x : Str} {v : V} {u : Value} {xs : List Str} {vs : List V} {us : List Value} : ClsV mg x v u → ClsVs mg xs vs us → ClsVs mg (x :: xs) (v :: vs) (u :: us)
theorem ClsVs.one {mg : Str → Option Value} : ∀ {xs : List Str} {vs : List V} {us zs : List Value}, ClsVs mg xs vs us → Vals vs zs → zs = us
  | _, _, _, _, .nil, .nil => rfl
  | _, _, _, _, .cons h r, .cons a b => by rw [h.one _ a, ClsVs.one r b]
theorem ClsVs.len {mg : Str → Option Value} : ∀ {xs : List Str} {vs : List V} {us : List Value}, ClsVs mg xs vs us → vs.length = xs.length
  | _, _, _, .nil => rfl
  | _, _, _, .cons _ r => congrArg (· + 1) (ClsVs.len r)
def XkN (K : PySem.W.Frag) (mg : Str → Option Value) (c : Str) (t : List (Str × Bool)) : Prop := ∃ v u, ClsV mg c v u ∧ ∀ p ∈ t, ∃ C, mg p.1 = some (.ref C) ∧ ExcC K C ∧ PySem.W.kitOne K (.ref C) u = some p.2
def XkT (K : PySem.W.Frag) (mg : Str → Option Value) (cs : List Str) (t : List (Str × Bool)) : Prop := ∃ vs us, ClsVs mg cs vs us ∧ ∀ p ∈ t, ∃ C, mg p.1 = some (.ref C) ∧ ExcC K C ∧ PySem.W.kitAny K (.ref C) us = some p.2
def XmN (K : PySem.W.Frag) (mg : Str → Option Value) (c : Str) (t : List (Str × Bool)) : Prop := ∃ v u, ClsV mg c v u ∧ ∀ p ∈ t, ∃ C, mg p.1 = some (.ref C) ∧ PySem.W.exmOne K (.ref C) u = some p.2
def PlN (K : PySem.W.Frag) (mg : Str → Option Value) (f : Str) (cs : List Str) : Prop := ∀ c ∈ cs, ∃ C, mg c = some (.ref C) ∧ XfC K C ∧ PySem.W.findIn K (.ref C) f = some none
section
variable {X : Cx} {N : List Str} {sc : Scope} {cf : Str → Bool} {G : Gx} {p p1 p2 pos : Pos} {i : Nat} {x c : Str}
theorem Fit.names (f : Fit X N sc G) {v : V} {u : Value} (hg : glOk sc c = true) (h : ClsV X.mg c v u) : Names X c u := by
  obtain ⟨h1, h2, h3⟩ := glOk_iff hg
  refine ⟨f.gl h1, h2, ?_⟩
  rcases h with ⟨C, h, _, rfl⟩ | ⟨h, rfl, _, rfl⟩
  · exact .inl h
  · exact .inr ⟨h, by decide +kernel, by decide⟩
theorem pe_cls (f : Fit X N sc G) {v : V} {u : Value} (hg : glOk sc c = true) (h : ClsV X.mg c v u) : PE X (.Name c p) (L2.tC v) := by
  obtain ⟨h1, h2, h3⟩ := glOk_iff hg
  have r := h.rel
  rcases h with ⟨C, h, _, rfl⟩ | ⟨h, rfl, _, rfl⟩
  · exact pe_glob (f.gl h1) h r h2
  · exact pe_bltn (f.gl h1) h (by decide +kernel) r
/-- the exception in a slot -/
theorem Cf.ex {K : Fw} {F : Frm} {S H : Hp} {ρ : Rho} {ts : List Tm} {σ : St} {vs : List V} {as bs : List Addr} {x : Ex} (c : Cf K F S ρ ts σ vs H as bs) (h : exAt ρ i = some x) :
    ∃ xa, F.xa = some xa ∧ xa.c = x.cls ∧ ExD K S x xa.dd ∧ σ[i]? = some (some (.ref xa.a)) := by
  unfold exAt at h
  split at h
  · rename_i y e
    cases h
    obtain ⟨o, _, _, _, g1, g2, _⟩ := c.slots.get e
    cases g2 with
    | ex h1 h2 h3 => exact ⟨_, h1, h2, h3, g1⟩
  · cases h
theorem ExD.heap {K : Fw} {S H : Hp} {x : Ex} {dd : Option Addr} (e : Ext S H) (h : ExD K S x dd) : dd = none ∨ ∃ p fs, dd = some p ∧ H p = some (.xd fs) := by
  rcases h with ⟨_, h⟩ | ⟨p, fs, h1, h2, _⟩
  · exact .inl h
  · exact .inr ⟨p, fs, h1, e _ _ h2⟩
/-- no exception is held: the slot can't be one -/
theorem xa_never (h : G.F.xa = none) {e : Expr} {E : E} (hx : ∀ (ρ : Rho) (ts : List Tm) (σ : St) (vs : List V) (Q : Tm → Rho → Prop), PostR G ts σ vs (evalE E ρ) Q → ∃ x, exAt ρ i = some x) : PE X e (tE G E) := by
  refine ⟨fun pins s σ H Q I ⟨ρ, ts, vs, ⟨S, as, bs, c⟩, q⟩ => ?_⟩
  obtain ⟨x, hx⟩ := hx _ _ _ _ _ q
  obtain ⟨xa, h1, _⟩ := c.ex hx
  rw [h] at h1
  cases h1
theorem isx_post {t : List (Str × Bool)} {ρ : Rho} {ts : List Tm} {σ : St} {vs : List V} {Q : Tm → Rho → Prop} (q : PostR G ts σ vs (evalE (.isx i c t) ρ) Q) : ∃ x b, exAt ρ i = some x ∧ (x.cls, b) ∈ t ∧ Q (.sh (.bool b)) ρ := by
  unfold evalE at q
  split at q
  · split at q
    · exact ⟨_, _, by assumption, lookup_mem (by assumption), q⟩
    · exact q.elim
  · exact q.elim
theorem ist_post {cs : List Str} {t : List (Str × Bool)} {ρ : Rho} {ts : List Tm} {σ : St} {vs : List V} {Q : Tm → Rho → Prop} (q : PostR G ts σ vs (evalE (.ist i cs t) ρ) Q) : ∃ x b, exAt ρ i = some x ∧ (x.cls, b) ∈ t ∧ Q (.sh (.bool b)) ρ := by
  unfold evalE at q
  split at q
  · split at q
    · exact ⟨_, _, by assumption, lookup_mem (by assumption), q⟩
    · exact q.elim
  · exact q.elim
theorem plc_post {fl : Str} {cs : List Str} {ρ : Rho} {ts : List Tm} {σ : St} {vs : List V} {Q : Tm → Rho → Prop} (q : PostR G ts σ vs (evalE (.plc i fl cs) ρ) Q) : ∃ x d, exAt ρ i = some x ∧ x.cls ∈ cs ∧ x.fs.lookup fl = some d ∧ Q (.sh d) ρ := by
  unfold evalE at q
  split at q
  · split at q
    · split at q
      · exact ⟨_, _, by assumption, by simpa using (by assumption : cs.contains _ = true), by assumption, q⟩
      · exact q.elim
    · exact q.elim
  · exact q.elim
/-- the class of the exception is among those told, or nothing is asked -/
theorem xa_known {cs : List Str} (xa : Xa) (hxa : G.F.xa = some xa) (f : Fit X N sc G) (hm : X.mg xa.c = some xa.cls) {e : Expr} {E : E} (hx : ∀ (ρ : Rho) (ts : List Tm) (σ : St) (vs : List V) (Q : Tm → Rho → Prop), PostR G ts σ vs (evalE E ρ) Q → ∃ x, exAt ρ i = some x ∧ x.cls ∈ cs)
    (k : xa.c ∈ cs → PE X e (tE G E)) : PE X e (tE G E) := by
  by_cases h : xa.c ∈ cs
  · exact k h
  · refine ⟨fun pins s σ H Q I ⟨ρ, ts, vs, ⟨S, as, bs, c⟩, q⟩ => ?_⟩
    obtain ⟨x, h1, h2⟩ := hx _ _ _ _ _ q
    obtain ⟨xb, g1, g2, _⟩ := c.ex h1
    rw [hxa] at g1
    cases g1
    rw [← g2] at h2
    exact absurd h2 h
theorem s_isx (f : Fit X N sc G) (hh : X.calm = false) {t : List (Str × Bool)} (hn : nameOk N sc i x = true) (hg : glOk sc "isinstance" = true) (hm : X.mg "isinstance" = none) (hc : glOk sc c = true) (nd : XkN X.K X.mg c t) :
    PE X (.Call (.Name "isinstance" p) [.Name x p1, .Name c p2] [] pos) (tE G (.isx i c t)) := by
  cases hxa : G.F.xa with
  | none => exact xa_never hxa (i := i) fun ρ ts σ vs Q q => let ⟨x, _, h, _⟩ := isx_post q; ⟨x, h⟩
  | some xa =>
    obtain ⟨h1, h2, h3, h4⟩ := nameOk_iff hn
    obtain ⟨k1, k2, k3⟩ := glOk_iff hg
    obtain ⟨X0, o, pn, hX, hz, hf, hmg⟩ := f.xa hh xa hxa
    refine xa_known (i := i) (cs := t.map (·.1)) xa hxa f hmg (fun ρ ts σ vs Q q => ?_) fun hk => ?_
    · obtain ⟨x, b, h, hb, _⟩ := isx_post q
      exact ⟨x, h, List.mem_map.mpr ⟨_, hb, rfl⟩⟩
    · obtain ⟨v, u, hv, ht⟩ := nd
      obtain ⟨pr, hp, e⟩ := List.mem_map.mp hk
      obtain ⟨C, e1, T, _⟩ := ht pr hp
      rw [e, hmg] at e1
      have ecl : xa.cls = .ref C := Option.some.inj e1
      obtain ⟨xa_a, xa_c, xa_cls, xa_dd⟩ := xa
      dsimp only at *
      subst ecl
      have hv' := pe_cls (p := p2) f hc hv
      subst hX
      refine PE.imp (pe_callB (call_isX T hz hf) (f.gl k1) hm (by decide +kernel) (pa_cons (pe_var (i := i) (by rw [f.hN]; exact h1) (by rw [f.sc]; exact h2) h3 h4) (pa_cons hv' pa_nil rfl) rfl) k3 k2 rfl rfl) fun σ H Q ⟨ρ, ts, vs, ⟨S, as, bs, c'⟩, q⟩ => ?_
      obtain ⟨x', b, g1, g2, g3⟩ := isx_post q
      obtain ⟨xb, y1, y2, y3, y4⟩ := c'.ex g1
      rw [hxa] at y1
      cases y1
      obtain ⟨C', z1, _, z2⟩ := ht _ g2
      rw [← y2, hmg] at z1
      cases z1
      exact ⟨_, y4, v, u, b, rfl, hv.one, z2, y3.heap c'.sub, g3 _ _ ⟨S, as, bs, c'.push (.bl b)⟩⟩
/-- names of classes -/
def clsOk (sc : Scope) : List Str → List Expr → Bool
  | [], [] => true
  | x :: xs, .Name y _ :: es => decide (y = x) && glOk sc x && clsOk sc xs es
  | _, _ => false
def tCs : List V → TA
  | [] => tNil
  | v :: vs => tCons (L2.tC v) (tCs vs)
theorem tCs_eq {σ : St} {H : Hp} : ∀ {vs : List V} {Q : List V → Hp → Prop}, Q vs H → tCs vs σ H Q
  | [], Q, q => q
  | v :: vs, Q, q => tCs_eq (vs := vs) (Q := fun ws H => Q (v :: ws) H) q
theorem pa_cls (f : Fit X N sc G) : ∀ {xs : List Str} {es : List Expr} {vs : List V} {us : List Value}, clsOk sc xs es = true → ClsVs X.mg xs vs us → PA X es (tCs vs)
  | [], [], _, _, _, .nil => pa_nil
  | x :: xs, .Name y q :: es, _, _, h, .cons h1 r => by
    unfold clsOk at h
    simp only [Bool.and_eq_true, decide_eq_true_eq] at h
    obtain ⟨⟨rfl, h2⟩, h3⟩ := h
    exact pa_cons (pe_cls f h2 h1) (pa_cls f h3 r) rfl
  | [], _ :: _, _, _, h, _ => by simp [clsOk] at h
theorem s_ist (f : Fit X N sc G) (hh : X.calm = false) {cs : List Str} {es : List Expr} {k0 : Nat} {t : List (Str × Bool)} (hl : cs.length ≤ 1000) (hn : nameOk N sc i x = true) (hg : glOk sc "isinstance" = true) (hm : X.mg "isinstance" = none) (hc : clsOk sc cs es = true) (nd : XkT X.K X.mg cs t) :
    PE X (.Call (.Name "isinstance" p) [.Name x p1, .Tuple es k0 p2] [] pos) (tE G (.ist i cs t)) := by
  cases hxa : G.F.xa with
  | none => exact xa_never hxa (i := i) fun ρ ts σ vs Q q => let ⟨x, _, h, _⟩ := ist_post q; ⟨x, h⟩
  | some xa =>
    obtain ⟨h1, h2, h3, h4⟩ := nameOk_iff hn
    obtain ⟨k1, k2, k3⟩ := glOk_iff hg
    obtain ⟨X0, o, pn, hX, hz, hf, hmg⟩ := f.xa hh xa hxa
    refine xa_known (i := i) (cs := t.map (·.1)) xa hxa f hmg (fun ρ ts σ vs Q q => ?_) fun hk => ?_
    · obtain ⟨x, b, h, hb, _⟩ := ist_post q
      exact ⟨x, h, List.mem_map.mpr ⟨_, hb, rfl⟩⟩
    · obtain ⟨v, u, hv, ht⟩ := nd
      obtain ⟨pr, hp, e⟩ := List.mem_map.mp hk
      obtain ⟨C, e1, T, _⟩ := ht pr hp
      rw [e, hmg] at e1
      have ecl : xa.cls = .ref C := Option.some.inj e1
      obtain ⟨xa_a, xa_c, xa_cls, xa_dd⟩ := xa
      dsimp only at *
      subst ecl
      have hv' := pa_cls f hc hv
      subst hX
      refine PE.imp (pe_callB (call_isT T hz hf) (f.gl k1) hm (by decide +kernel) (pa_cons (pe_var (i := i) (by rw [f.hN]; exact h1) (by rw [f.sc]; exact h2) h3 h4) (pa_cons (pe_tup hv') pa_nil rfl) rfl) k3 k2 rfl rfl) fun σ H Q ⟨ρ, ts, vs, ⟨S, as, bs, c'⟩, q⟩ => ?_
      obtain ⟨x', b, g1, g2, g3⟩ := ist_post q
      obtain ⟨xb, y1, y2, y3, y4⟩ := c'.ex g1
      rw [hxa] at y1
      cases y1
      obtain ⟨C', z1, _, z2⟩ := ht _ g2
      rw [← y2, hmg] at z1
      cases z1
      refine ⟨_, y4, tCs_eq ⟨by rw [hv.len, sizeLine_eq]; omega, fun a ha => ?_⟩⟩
      have c2 := c'.grow (ext_upd (o := .tup v) ha)
      exact ⟨a, v, u, b, rfl, upd_same, fun zs r => hv.one r, z2, y3.heap c2.sub, g3 _ _ ⟨S, as, bs, c2.push (.bl b)⟩⟩
theorem s_plc (f : Fit X N sc G) (hh : X.calm = false) {fl : Str} {cs : List Str} (hn : nameOk N sc i x = true) (nd : PlN X.K X.mg fl cs) : PE X (.Attribute (.Name x p) fl pos) (tE G (.plc i fl cs)) := by
  cases hxa : G.F.xa with
  | none => exact xa_never hxa (i := i) fun ρ ts σ vs Q q => let ⟨x, _, h, _⟩ := plc_post q; ⟨x, h⟩
  | some xa =>
    obtain ⟨h1, h2, h3, h4⟩ := nameOk_iff hn
    obtain ⟨X0, o, pn, hX, hz, hf, hmg⟩ := f.xa hh xa hxa
    refine xa_known (i := i) (cs := cs) xa hxa f hmg (fun ρ ts σ vs Q q => ?_) fun hk => ?_
    · obtain ⟨x, b, h, hb, _⟩ := plc_post q
      exact ⟨x, h, hb⟩
    · obtain ⟨C, e1, T, hno⟩ := nd _ hk
      rw [hmg] at e1
      have ecl : xa.cls = .ref C := Option.some.inj e1
      subst hX
      refine PE.imp (pe_xf T hno hz hf (pe_var (i := i) (by rw [f.hN]; exact h1) (by rw [f.sc]; exact h2) h3 h4) rfl) fun σ H Q ⟨ρ, ts, vs, ⟨S, as, bs, c'⟩, q⟩ => ?_
      obtain ⟨x', d, g1, g2, g3, g4⟩ := plc_post q
      obtain ⟨xb, y1, y2, y3, y4⟩ := c'.ex g1
      rw [hxa] at y1
      cases y1
      rcases y3 with ⟨y3, _⟩ | ⟨pd, fs, w1, w2, w3⟩
      · rw [y3] at g3
        cases g3
      · obtain ⟨v, hv, r⟩ := w3.get g3
        exact ⟨_, y4, rfl, ecl, pd, fs, v, w1, c'.sub _ _ w2, hv, g4 _ _ ⟨S, as, bs, c'.push r⟩⟩
end
end Ev

-- EvI
/-! EvI: own exceptions whose __init__ sets one field. -/
namespace Ev
open PySem L2 PySem.Spec PyProof.Rows

/-- the class's __init__ is that of ValueError, read off the class -/
structure BaseC (K : PySem.W.Frag) (B : Addr) : Prop where
  rd : PySem.W.readsIn K B (.type "type") = true
  ga : PySem.W.specialIn K (.ref B) "__getattribute__" = some (some (.builtin "type.__getattribute__"))
  at_ : PySem.W.findCls K (.ref B) (.type "type") "__init__" = some (.val (.builtin "ValueError.__init__"))
/-- o.m(..) on one line, no stars, no keywords -/
theorem wpAny_callM {P : Program} {w : World} {A : Around} {E : Value → Shared → Prop} {s : Shared} {env : Env} {o : Expr} {name : Str} {apos pos : Pos} {args : List Expr} {Q : Value → Shared → Prop} (hbase : attributeBase o name env (eval o env) = eval o env)
    (hfew : methodCallForm args.length (backTo pos (starEach args env)) [] = true) (hline : (apos.endLine == pos.line) = true)
    (h : wpAny (model P w) A (eval o env) (fun ov s1 => ∀ pl, wpAny (model P w) A (getMethod ov name pl) (fun fx s2 => wpAny (model P w) A (callWith pos fx.1 fx.2 (backTo pos (starEach args env)) []) Q E s2) E s1) E s) :
    wpAny (model P w) A (eval (.Call (.Attribute o name apos) args [] pos) env) Q E s := by
  rw [arm_eval_Call, hbase]
  refine wpAny_bind (wpAny_mono h (fun ov s1 h1 => ?_) fun _ _ e => e)
  refine wpAny_bind (wpAny_standAt ?_)
  have hform : methodCallForm (args.length + ([] : List Keyword).length) (backTo pos (starEach args env)) (backToKw pos (keywordEach [] env)) = true := hfew
  have hpos : methodCallPos true o env apos pos = pure pos := by unfold methodCallPos; simp [hline]
  unfold methodCall
  rw [hform]
  refine wpAny_bind (wpAny_holding (wpAny_mono (h1 _) (fun fx s2 h2 => ?_) fun _ _ e => e))
  exact wpAny_bind (wpAny_of_eq hpos h2)
/-- B.__init__(self, ..) -/
theorem pe_cinit {X : Cx} {b : Str} {B : Addr} {e : Expr} {es : List Expr} {ta : TA} {q1 q2 pos : Pos} (hg : Gl X b) (hm : X.mg b = some (.ref B)) (hd : (b == ("__debug__" : Str)) = false) (T : BaseC X.K B) (ha : PA X (e :: es) ta)
    (hs : starEach (e :: es) X.env = (false, eval e X.env) :: starEach es X.env) (hp : (backTo pos (starEach es X.env)).any (·.1) = false)
    (hfew : methodCallForm (e :: es).length (backTo pos (starEach (e :: es) X.env)) [] = true) (hline : (q2.endLine == pos.line) = true) :
    PE X (.Call (.Attribute (.Name b q1) "__init__" q2) (e :: es) [] pos) (tVeI X.K ta) := by
  refine ⟨fun pins s σ H Q I h => ?_⟩
  refine wpAny_callM rfl hfew hline (ld_glob I hg hm (fun pl => ?_) hd)
  refine PySem.W.method_cls I.kIn T.ga (PySem.W.cls_value I.kIn T.rd T.at_ (by decide +kernel) ?_)
  show wpAny _ _ (callWith pos (Value.builtin "ValueError.__init__") [] (backTo pos (starEach (e :: es) X.env)) []) _ _ _
  refine PyProof.Rows.callWith_method1 (thn (ha.run pos pins _ σ H _ (I.tok _) h) fun us s1 hu => ?_) hs hp
  obtain ⟨vs, H1, I1, rv, a, C, ws, e1, hl, TC, ea, q⟩ := hu
  subst e1
  match us, rv with
  | _ :: ur, .cons ra rw' =>
    cases ra
    have hlen : ur.length ≤ sizeLine := by
      rw [← Paired.length rw', sizeLine_eq]
      omega
    exact oinit_ok TC I1 ea hlen fun s' J => ⟨.non, H1, J, rfl, q⟩
/-- what C.__init__(self, y) does: the field f is y -/
def spIn (C : Addr) (f : Str) : Sp := fun vs H Q _ => ∃ (a : Addr) (y : V), vs = [.ref a, y] ∧ H a = some (exo a C none) ∧ ∀ dx, H dx = none → dx ≠ a → Q .non (upd (upd H dx (exd dx [(f, y)])) a (exo a C (some dx)))
/-- the text of such an __init__ -/
def initOk (sc : Scope) (ps : List Str) (b f : Str) : List Stmt → Bool
  | [.Expr (.Call (.Attribute (.Name b' _) m ap) [.Name x _, .Constant (.str _) _ _] [] cp) _, .Assign [.Attribute (.Name x' _) g _] (.Name y _) _] =>
    (ap.endLine == cp.line) && decide (b' = b) && decide (m = ("__init__" : Str)) && decide (g = f) && glOk sc b && nameOk ps sc 0 x && nameOk ps sc 0 x' && nameOk ps sc 1 y && decide (ps.length = 2)
  | _ => false
theorem init_fn {P : Program} {w : World} {K : PySem.W.Frag} {mg : Str → Option Value} {base : Heap} {x qual b f : Str} {params : Arguments} {body : List Stmt} {scope : Scope} {dvs : List V} {kws : List (Str × V)} {fI B C : Addr} {fd : FuncData} {ps : List Str} {k : Nat}
    (F : FunD K x qual params body scope dvs kws fI fd) (S : FnScope ps ps scope) (hc : initOk scope ps b f body = true) (hb : mg b = some (.ref B)) (T : BaseC K B) (TC : OexC K C) (hno : PySem.W.findIn K (.ref C) f = some none) :
    FnOk P w K mg base (L2.CX P w) (k + 1) fI fd ps (spIn C f) := by
  have hlen : ps.length = 2 := by
    unfold initOk at hc
    split at hc
    · simp only [Bool.and_eq_true, decide_eq_true_eq] at hc
      exact hc.2
    · cases hc
  refine F.ok S (fun vs H Q E h => ?_) fun cdv A outer s H vs Q E hr hsp => ?_
  · obtain ⟨a, y, rfl, _⟩ := h
    rw [hlen]
    rfl
  · obtain ⟨a, y, rfl, ea, q⟩ := hsp
    unfold initOk at hc
    split at hc
    · rename_i b' p1 m p2 x1 p3 msg j p4 p5 p6 x2 p7 g p8 y1 p9 p10
      simp only [Bool.and_eq_true, decide_eq_true_eq] at hc
      obtain ⟨⟨⟨⟨⟨⟨⟨⟨h0, rfl⟩, rfl⟩, rfl⟩, h4⟩, h5⟩, h6⟩, h7⟩, h8⟩ := hc
      obtain ⟨g1, g2, g3⟩ := glOk_iff h4
      obtain ⟨n1, n2, n3, n4⟩ := nameOk_iff h5
      obtain ⟨m1, m2, m3, m4⟩ := nameOk_iff h6
      obtain ⟨y1', y2, y3, y4⟩ := nameOk_iff h7
      refine ⟨_, pss_cons (ps_expr (pe_cinit (show Gl _ b' from g1) hb g2 T (pa_cons (pe_var (i := 0) n1 n2 n3 n4) (pa_cons (pe_str (x := msg)) pa_nil rfl) rfl) rfl rfl rfl h0) rfl) (pss_cons (ps_ost (pe_var (i := 0) m1 m2 m3 m4) (pe_var (i := 1) y1' y2 y3 y4) rfl) pss_nil), ?_⟩
      have e0 : (start ps [V.ref a, y])[0]? = some (some (V.ref a)) := rfl
      have e1 : (start ps [V.ref a, y])[1]? = some (some y) := rfl
      refine ⟨_, e0, a, C, [.str msg], rfl, Nat.le_of_ble_eq_true rfl, TC, ea, ?_⟩
      exact ⟨_, e1, _, e0, a, C, rfl, TC, hno, .inl ⟨ea, fun dx n ne => q dx n ne⟩⟩
    · cases hc
/-- what must be known to raise C(e) -/
def RaiI (M : Md) (c f : Str) : Prop := ∃ (C fI : Addr) (k : Nat) (fd : FuncData) (ps : List Str), M.mg c = some (.ref C) ∧ OexC M.K.K C ∧ PySem.W.findIn M.K.K (.ref C) "__init__" = some (some (.ref fI)) ∧ PySem.W.typeIn M.K.K (.ref fI) = some (.type "function") ∧
  FnOk M.prog M.w M.K.K M.mg M.base (L2.CX M.prog M.w) k fI fd ps (spIn C f) ∧ Room (k + 1) M.A ∧ Binds M.K.K fd ps []
theorem made_eq {H : Hp} {a d : Addr} {e0 u v w' : HO} (ha : H a = none) : upd (del (upd (upd (upd H a e0) d v) a u) a) d w' = upd H d w' := by
  funext b
  by_cases e : b = d
  · subst e
    rw [upd_same, upd_same]
  · rw [upd_ne e, upd_ne e]
    by_cases e2 : b = a
    · subst e2
      rw [del_same, ha]
    · rw [del_ne e2, upd_ne e2, upd_ne e, upd_ne e2]
end Ev

-- EvL
/-! EvL: len(set(..)) of a tuple of ints; calls whose first argument is new. -/
namespace Ev
open PySem L2
theorem dst_mem {x : Int} : ∀ (ns q : List Int), x ∈ ns.foldl (fun q a => if a ∈ q then q else q ++ [a]) q ↔ x ∈ q ∨ x ∈ ns
  | [], q => by simp
  | n :: ns, q => by
    rw [List.foldl_cons, dst_mem ns]
    by_cases h : n ∈ q
    · rw [if_pos h, List.mem_cons]
      constructor
      · rintro (k | k)
        · exact .inl k
        · exact .inr (.inr k)
      · rintro (k | rfl | k)
        · exact .inl k
        · exact .inl h
        · exact .inr k
    · rw [if_neg h, List.mem_append, List.mem_singleton, List.mem_cons, or_assoc]
theorem dst_nodup : ∀ (ns q : List Int), q.Nodup → (ns.foldl (fun q a => if a ∈ q then q else q ++ [a]) q).Nodup
  | [], q, h => h
  | n :: ns, q, h => by
    rw [List.foldl_cons]
    refine dst_nodup ns _ ?_
    split
    · exact h
    · rename_i hn
      rw [List.nodup_append]
      exact ⟨h, by simp, fun x hx y hy e => hn (by rw [List.mem_singleton.mp hy] at e; rw [← e]; exact hx)⟩
theorem nodup_le' : ∀ {l m : List Int}, l.Nodup → (∀ x ∈ l, x ∈ m) → l.length ≤ m.length
  | [], _, _, _ => Nat.zero_le _
  | x :: l, m, hn, hs => by
    obtain ⟨h1, h2⟩ := List.nodup_cons.mp hn
    have hx := hs x List.mem_cons_self
    have := nodup_le' (l := l) (m := m.erase x) h2 fun y hy => (List.mem_erase_of_ne (fun e => h1 (by rw [← e]; exact hy))).mpr (hs y (List.mem_cons_of_mem _ hy))
    rw [List.length_erase_of_mem hx] at this
    have hp : 0 < m.length := List.length_pos_of_mem hx
    rw [List.length_cons]
    omega
theorem rps_ints {K : Fw} {S : Hp} : ∀ {ds : List D} {xs : List V} {ns : List Int}, Rps K S xs ds → intsOf ds = some ns → xs = ns.map V.int
  | [], _, ns, .nil, h => by unfold intsOf at h; cases h; rfl
  | d :: ds, _, ns, .cons h r, e => by
    unfold intsOf at e
    split at e
    · rename_i q; cases q
    · rename_i i r' q
      cases q
      obtain ⟨ms, h1, rfl⟩ := Option.map_eq_some_iff.mp e
      rw [rps_ints r h1, Rp.int_of h]
      rfl
    · cases e
theorem vals_ints : ∀ {ns : List Int} {us : List Value}, Vals (ns.map V.int) us → PyProof.Rows.IntsAre us ns
  | [], _, .nil => .nil
  | n :: ns, _, .cons r t => by
    obtain ⟨k, rfl⟩ := r
    exact .cons n k (vals_ints t)
section
variable {X : Cx} {N : List Str} {sc : Scope} {G : Gx} {a : Expr} {ea : E} {pos p p2 q : Pos}
theorem s_lset (f : Fit X N sc G) (hc : X.calm = true) (hg : glOk sc "len" = true) (hm : X.mg "len" = none) (hg2 : glOk sc "set" = true) (hm2 : X.mg "set" = none) (ha : PE X a (tE G ea))
    (na : starEach [a] X.env = (false, eval a X.env) :: starEach [] X.env) : PE X (.Call (.Name "len" p) [.Call (.Name "set" p2) [a] [] q] [] pos) (tE G (.lset ea)) := by
  obtain ⟨h1, _, _⟩ := glOk_iff hg
  obtain ⟨k1, _, _⟩ := glOk_iff hg2
  refine ⟨fun pins s σ H Q I ⟨ρ, ts, vs, c, pp⟩ => ?_⟩
  unfold evalE at pp
  refine PyProof.Rows.Call_ (ld_blt I (f.gl h1) hm PySem.boot_len ?_)
  refine PyProof.Rows.callWith_builtin1 (PyProof.Rows.args_cons ?_ rfl) rfl rfl
  refine PyProof.Rows.Call_ (ld_blt I (f.gl k1) hm2 PyProof.Rows.boot_set ?_)
  have ht : tE G ea σ H fun v H1 => ∃ (l : Addr) (ns : List Int), v = V.ref l ∧ SqT (kx X) H1 l (ns.map V.int) ∧ ns.length ≤ 1000 ∧ Q (.int (dstL ns).length) H1 := by
    refine ⟨ρ, ts, vs, c, pp.bind.mono fun t ρ1 p1 v H1 c1 => ?_⟩
    obtain ⟨d, own, d', g1, g3, g4⟩ := op1_post p1
    have c1' := c1
    obtain ⟨S, as, bs, c1⟩ := c1
    have tp := f.K ▸ c1.top g1
    unfold lsetD at g3
    split at g3
    · rename_i ds
      obtain ⟨ns, e1, e2⟩ := Option.bind_eq_some_iff.mp g3
      split at e2
      · rename_i hl
        cases e2
        obtain ⟨l, xs, rfl, hT, r⟩ := Rp.tup_of tp
        have ex := rps_ints r e1
        subst ex
        obtain ⟨cs, c2⟩ := c1.drop
        exact ⟨l, ns, rfl, Ext.t (K := kx X) c1.sub hT, hl, g4 _ _ ⟨S, as, cs, c2.push (.int _)⟩⟩
      · cases e2
    · cases g3
  refine PyProof.Rows.callWith_type1 (PyProof.Rows.args_cons (thn (ha.run pins s σ H _ I ht) fun v s1 ⟨x, H1, I1, r1, q1⟩ => PyProof.Rows.args_nil ?_) na) na rfl
  obtain ⟨l, ns, rfl, hq, hl, q1⟩ := q1
  cases r1
  obtain ⟨its, r, pl, hz⟩ := I1.tuple hq
  refine call_set_tupI ns (I1.ok.hd hc) pl (by simpa using vals_ints r) (by unfold scanBound; omega) fun h' tk cnt hS hcn hk => ?_
  refine PyProof.Rows.args_nil ?_
  obtain ⟨o, es, ep, t, ho, hex, hd, _, hnd, hmem, _, hf, hn, _⟩ := hS
  have hcount : es.size = (dstL ns).length := by
    have e1 : (es.toList.map L2.keyOf).length = es.size := by rw [List.length_map, Array.length_toList]
    have m1 : ∀ x, x ∈ es.toList.map L2.keyOf ↔ x ∈ ns := fun x => (hmem x).symm.trans decide_eq_true_iff
    have m2 : ∀ x, x ∈ dstL ns ↔ x ∈ ns := fun x => (dst_mem ns []).trans (by simp)
    have n2 : (dstL ns).Nodup := dst_nodup ns [] (by simp)
    have a1 := nodup_le' hnd fun x hx => (m2 x).mpr ((m1 x).mp hx)
    have a2 := nodup_le' n2 fun x hx => (m1 x).mpr ((m2 x).mp hx)
    omega
  have I2 : Inv X pins σ H1 { s1 with heap := h', toks := tk } := I1.kept (t' := tk) fun b o e => hk b o e
  refine PySem.call_len_set ho hex hd hf (by rw [hn]; omega) ⟨.int (dstL ns).length, H1, I2.tok _, ⟨_, by rw [← hcount]⟩, q1⟩
/-! ### a new first argument -/
def ConfN (G : Gx) (ρ : Rho) (t : Tm) (rs : List Ar) (ts : List Tm) (σ : L2.St) (v : V) (ws vs : List V) (H : Hp) : Prop := ∃ S as bs, Cf G.K G.F S ρ (t :: ts) σ (v :: vs) H as bs ∧ ArRs G.K S σ rs ws
def tAsN (G : Gx) (e : E) (as : As) : TA := fun σ H Q => ∃ ρ ts vs, Conf G.K G.F ρ ts σ vs H ∧ PostR G ts σ vs ((evalE e ρ).bind fun t ρ1 => (evalAs as ρ1).bind fun rs ρ2 => .ok (t, rs) ρ2) fun p ρ' => ∀ v ws H', ConfN G ρ' p.1 p.2 ts σ v ws vs H' → Q (v :: ws) H'
theorem s_asN {as : As} {xs : List Expr} (ha : PE X a (tE G ea)) (hr : PA X xs (tAs G as)) (hs : starEach (a :: xs) X.env = (false, eval a X.env) :: starEach xs X.env) : PA X (a :: xs) (tAsN G ea as) := by
  refine PA.imp (pa_cons ha hr hs) fun σ H Q ⟨ρ, ts, vs, c, p⟩ => ?_
  refine ⟨ρ, ts, vs, c, p.bind.mono fun t ρ1 p1 v H1 c1 => ?_⟩
  refine ⟨ρ1, t :: ts, v :: vs, c1, p1.bind.weak.mono fun rs ρ3 p3 ws H3 ⟨S3, as3, bs3, c3, r3⟩ => ?_⟩
  exact p3 _ _ _ ⟨S3, as3, bs3, c3, r3⟩
theorem arIos_nil : ∀ {rs : List Ar}, arIos rs = [] → arIosB rs = falses rs.length
  | [], _ => rfl
  | .val _ :: rs, h => congrArg (false :: ·) (arIos_nil (rs := rs) h)
  | .io _ :: rs, h => by cases h
/-- the frame behind a call that changed an object of its own -/
theorem Cf.calledN {K : Fw} {F : Frm} {S S' H H' : Hp} {ρ : Rho} {ts : List Tm} {σ : L2.St} {vs : List V} {asl bs : List Addr} {b : Addr} {ios : List D} (c : Cf K F S ρ ts σ vs H asl bs) (hb : b ∉ asl ++ bs) (hin : F.Hin b = none) (aft : After K H S [b] H' S' ios) : Cf K F S' ρ ts σ vs H' asl bs := by
  have kp : ∀ z ∈ asl ++ bs, ∀ o, H z = some o → H' z = some o := fun z hz o ho => aft.keep z o ho fun q => hb (by rw [← List.mem_singleton.mp q]; exact hz)
  refine ⟨aft.e2, c.s0.trans aft.e1, fun z o h => ?_, fun z o h hn => ?_, fun z hz => ?_, c.slots.mono aft.e1 fun z hz => kp z (List.mem_append_left _ hz), c.tms.mono aft.e1 fun z hz => kp z (List.mem_append_right _ hz), c.nd, fun z hz => ?_⟩
  · rcases aft.new z o h with ⟨o', q⟩ | q
    · exact c.new z o' q
    · exact .inr (c.newHin q)
  · exact aft.keep z o (c.keep z o h hn) fun q => by rw [List.mem_singleton.mp q, hin] at h; cases h
  · by_cases q : z = b
    · subst q
      cases aft.ios with
      | cons ow _ => exact ow.there
    · obtain ⟨o, ho⟩ := c.iod z hz
      exact ⟨o, aft.keep z o ho fun w => q (List.mem_singleton.mp w)⟩
  · cases q : S' z with
    | none => rfl
    | some o =>
      rcases aft.new z o q with ⟨o', w⟩ | w
      · rw [c.out z hz] at w; cases w
      · exact absurd hz (c.fresh w)
theorem calln_red (f : Fit X N sc G) {m : Fn} {dv : List D} {e : E} {as : As} {dvs : List V} (hd : ∀ S, Rps (kx X) S dvs dv) {x : Str} {σ : L2.St} {H : Hp} {Q : VK} (q : tE G (.calln x m dv e as) σ H Q) :
    tCallSD (SpF (kx X) X.mg (true :: (asIos as ++ falses dv.length)) m) dvs (WE G.W) (tAsN G e as) σ H Q := by
  obtain ⟨ρ, ts, vs, c, p⟩ := q
  unfold evalE at p
  have p' : PostR G ts σ vs (((evalE e ρ).bind fun t ρ1 => (evalAs as ρ1).bind fun rs ρ2 => Res.ok (t, rs) ρ2).bind fun pr ρ2 => doCallN m dv pr.1 pr.2 ρ2) (fun t ρ' => ∀ v H', Conf G.K G.F ρ' (t :: ts) σ (v :: vs) H' → Q v H') := by
    rw [Res.bind_assoc]
    have e0 : (fun a ρ1 => ((evalAs as ρ1).bind fun rs ρ2 => Res.ok (a, rs) ρ2).bind fun pr ρ2 => doCallN m dv pr.1 pr.2 ρ2) = fun t ρ1 => (evalAs as ρ1).bind fun rs ρ2 => doCallN m dv t rs ρ2 := by
      funext t ρ1
      rw [Res.bind_assoc]
      rfl
    rw [e0]
    exact p
  refine ⟨ρ, ts, vs, c, p'.bind.monoEq fun pr ρ1 e1 p1 v ws H1 cN => ?_⟩
  obtain ⟨S, asl, bs, c1, ar⟩ := cN
  obtain ⟨t, rs⟩ := pr
  simp only at p1 c1 ar
  have eas : arIosB rs = asIos as := by
    obtain ⟨t', ρ', _, e2⟩ := bind_ok e1
    obtain ⟨rs', ρ2, e3, e4⟩ := bind_ok e2
    cases e4
    exact evalAs_ios e3
  unfold doCallN at p1
  split at p1
  · rename_i d0
    split at p1
    · rename_i hno
      split at p1
      · exact p1.elim
      · rename_i ds hds
        obtain ⟨n1, n2, n3⟩ := List.nodup_append.mp c1.nd
        obtain ⟨as', g1, g2, g3, g4, g5⟩ := args_of c1.slots n1 ar hds (by rw [hno]; exact List.nodup_nil)
        rw [hno] at g4
        have has : as' = [] := List.eq_nil_of_length_eq_zero g4.symm
        subst has
        have hsub : ∃ b cs, v = V.ref b ∧ bs = b :: cs ∧ OwnAt G.K H1 S b d0 ∧ G.F.Hin b = none ∧ Cf G.K G.F S ρ1 ts σ vs H1 asl cs ∧ b ∉ asl ++ cs := by
          cases hh : c1.tms with
          | cons h r =>
            rename_i xs ys
            cases h with
            | ow ow hn =>
              rename_i b
              refine ⟨b, ys, rfl, rfl, ow, hn, ⟨c1.sub, c1.s0, c1.new, c1.keep, c1.iod, c1.slots, r, ?_, fun z hz => c1.out z ?_⟩, fun hm => ?_⟩
              · exact c1.nd.sublist (List.Sublist.append (List.Sublist.refl _) (List.sublist_append_right _ _))
              · rcases List.mem_append.mp hz with w | w
                · exact List.mem_append_left _ w
                · exact List.mem_append_right _ (List.mem_append_right _ w)
              · rcases List.mem_append.mp hm with w | w
                · exact n3 b w b (by simp) rfl
                · exact (List.nodup_cons.mp (show (b :: ys).Nodup from n2)).1 w
        obtain ⟨b, cs, rfl, rfl, hown, hin, c2, hb⟩ := hsub
        have g1' := g1.ext (f.K ▸ hd S)
        rw [eas] at g1'
        refine ⟨S, d0 :: (ds ++ dv), [b], c2.sub, f.K ▸ .io hown g1', by simp, fun z hz => c1.out z (by rw [List.mem_singleton.mp hz]; simp), ?_⟩
        split at p1
        · exact p1.elim
        · rename_i own d ios hmm
          try rw [hmm]
          intro v H' S' aft r
          have aft' : After G.K H1 S [b] H' S' ios := f.K ▸ aft
          have c3 := c2.calledN hb hin aft'
          cases own with
          | true =>
            obtain ⟨z, rfl, hz, hs, ow⟩ := r
            have ow' : OwnAt G.K H' S' z d := f.K ▸ ow
            refine p1 _ _ ⟨S', asl, z :: cs, c3.sub, c3.s0, c3.new, c3.keep, c3.iod, c3.slots, (.cons (as := [z]) (.ow ow' (c2.newHin hz)) c3.tms), ?_, fun y hy => ?_⟩
            · exact (List.perm_middle (a := z) (l₁ := asl) (l₂ := cs)).nodup_iff.mpr (List.nodup_cons.mpr ⟨c2.fresh hz, c3.nd⟩)
            · simp only [List.mem_append, List.mem_cons] at hy
              rcases hy with w | rfl | w
              · exact c3.out y (List.mem_append_left _ w)
              · exact hs
              · exact c3.out y (List.mem_append_right _ w)
          | false => exact p1 _ _ ⟨S', asl, cs, c3.push (f.K ▸ r)⟩
        · rename_i x ios hmm
          try rw [hmm]
          intro cls dd H' S' aft r
          have aft' : After G.K H1 S [b] H' S' ios := f.K ▸ aft
          have c3 := c2.calledN hb hin aft'
          exact p1 cls dd H' ⟨S', asl, cs, c3, by rw [f.K, f.mg]; exact r⟩
    · exact p1.elim
  · exact p1.elim
theorem s_calln (f : Fit X N sc G) {m : Fn} {dv : List D} {ei : E} {as : As} {x : Str} {e : Expr} {es : List Expr} (hg : glOk sc x = true) (hk : KnF X.md x m (true :: (asIos as ++ falses dv.length)) dv) (ha : PA X (e :: es) (tAsN G ei as))
    (he : starEach (e :: es) X.env = (false, eval e X.env) :: starEach es X.env) (hpl : (backTo pos (starEach es X.env)).any (·.1) = false) : PE X (.Call (.Name x p) (e :: es) [] pos) (tE G (.calln x m dv ei as)) := by
  obtain ⟨h1, h2, _⟩ := glOk_iff hg
  obtain ⟨a, fd, ps, k, dvs, dw, F, hr, hm, kp, hb, hd, hrp, _⟩ := hk
  exact PE.imp (pe_callSD F hr (f.gl h1) hm kp hb hd (fun σ => passAt f.tk σ) ha h2 he hpl) fun σ H Q q => calln_red f hrp q
/-! ### a call that only looks -/
theorem ArRs.len {K : Fw} {S : Hp} {σ : L2.St} : ∀ {rs : List Ar} {ws : List V}, ArRs K S σ rs ws → ws.length = rs.length
  | _, _, .nil => rfl
  | _, _, .cons _ r => congrArg (· + 1) (ArRs.len r)
theorem arIosB_len : ∀ (rs : List Ar), (arIosB rs).length = rs.length
  | [] => rfl
  | .val _ :: rs => congrArg (· + 1) (arIosB_len rs)
  | .io _ :: rs => congrArg (· + 1) (arIosB_len rs)
theorem bor_args {K : Fw} {F : Frm} {H S : Hp} {ρ : Rho} {σ : L2.St} {asl : List Addr} (h : SlRs K F H S ρ σ asl) (e0 : Ext S H) : ∀ {rs : List Ar} {ws : List V} {ds : List D}, ArRs K S σ rs ws → arGet ρ rs = some ds → ArgR K H H (falses rs.length) ws ds []
  | [], _, _, .nil, e => by
    cases e
    exact .nil
  | .val d :: rs, _, _, .cons (.val r) rr, e => by
    obtain ⟨ds, h1, rfl⟩ := Option.map_eq_some_iff.mp (show (arGet ρ rs).map (d :: ·) = some _ from e)
    exact .val (r.ext e0) (bor_args h e0 rr h1)
  | .io i :: rs, _, ds0, .cons (.io r) rr, e => by
    have key : ∃ d ds, (ρ[i]? = some (.ow d) ∨ ∃ k, ρ[i]? = some (.io k d)) ∧ arGet ρ rs = some ds ∧ ds0 = d :: ds := by
      unfold arGet at e
      split at e
      · rename_i d q
        obtain ⟨ds, h1, h2⟩ := Option.map_eq_some_iff.mp e
        exact ⟨d, ds, .inl q, h1, h2.symm⟩
      · rename_i k d q
        obtain ⟨ds, h1, h2⟩ := Option.map_eq_some_iff.mp e
        exact ⟨d, ds, .inr ⟨k, q⟩, h1, h2.symm⟩
      · cases e
    obtain ⟨d, ds, q, h1, rfl⟩ := key
    obtain ⟨a, s, k1, k2, k3, k4, k5⟩ := own_of h q
    rw [k2] at r
    cases r
    exact .val (k4.rp e0 fun o ho => ho) (bor_args h e0 rr h1)
theorem Rp.isScal {K : Fw} {S S' : Hp} {v : V} {d : D} (h : Rp K S v d) (hs : isScal d = true) : Rp K S' v d := by
  cases h with
  | non => exact .non
  | bl b => exact .bl b
  | int i => exact .int i
  | _ => cases hs
theorem callb_red (f : Fit X N sc G) {m : Fn} {dv : List D} {as : As} {dvs : List V} (hd : ∀ S, Rps (kx X) S dvs dv) {x : Str} {σ : L2.St} {H : Hp} {Q : VK} (q : tE G (.callb x m dv as) σ H Q) :
    tCallSD (SpF (kx X) X.mg (falses (asIos as).length ++ falses dv.length) m) dvs (WE G.W) (tAs G as) σ H Q := by
  obtain ⟨ρ, ts, vs, c, p⟩ := q
  unfold evalE at p
  refine ⟨ρ, ts, vs, c, p.bind.monoEq fun rs ρ1 e p1 ws H1 ⟨S, asl, bs, c1, ar⟩ => ?_⟩
  unfold doCallB at p1
  split at p1
  · exact p1.elim
  · rename_i ds hds
    have g := (bor_args c1.slots c1.sub ar hds).ext (f.K ▸ hd H1)
    have hl : (asIos as).length = rs.length := by rw [← evalAs_ios e, arIosB_len]
    rw [hl]
    refine ⟨H1, ds ++ dv, [], Same.refl _, f.K ▸ g, List.nodup_nil, fun a ha => (by cases ha), ?_⟩
    split at p1
    · rename_i d hm
      try rw [hm]
      split at p1
      · rename_i hs
        intro v H' S' aft r
        have r' : Rp (kx X) S' v d := r
        have e1 : Ext H1 H' := aft.e1.trans aft.e2
        have r2 : Rp G.K S v d := f.K ▸ r'.isScal hs
        exact p1 _ _ ⟨S, asl, bs, (c1.grow e1).push r2⟩
      · exact p1.elim
    · exact p1.elim
theorem s_callb (f : Fit X N sc G) {m : Fn} {dv : List D} {as : As} {x : Str} {e : Expr} {es : List Expr} (hg : glOk sc x = true) (hk : KnF X.md x m (falses (asIos as).length ++ falses dv.length) dv) (ha : PA X (e :: es) (tAs G as))
    (he : starEach (e :: es) X.env = (false, eval e X.env) :: starEach es X.env) (hpl : (backTo pos (starEach es X.env)).any (·.1) = false) : PE X (.Call (.Name x p) (e :: es) [] pos) (tE G (.callb x m dv as)) := by
  obtain ⟨h1, h2, _⟩ := glOk_iff hg
  obtain ⟨a, fd, ps, k, dvs, dw, F, hr, hm, kp, hb, hd, hrp, _⟩ := hk
  exact PE.imp (pe_callSD F hr (f.gl h1) hm kp hb hd (fun σ => passAt f.tk σ) ha h2 he hpl) fun σ H Q q => callb_red f hrp q
end
end Ev

-- Ev10
/-! Ev10: an IR is checked against an expression; what it means is what the model does. -/
namespace Ev
open PySem L2

/-! ### shapes -/
def notStar : Expr → Bool
  | .Starred _ _ => false
  | _ => true
theorem starEach_cons {a : Expr} {xs : List Expr} {env : Env} (h : notStar a = true) : starEach (a :: xs) env = (false, eval a env) :: starEach xs env := by
  cases a <;> first | rfl | cases h
theorem starEach_any {pos : Pos} {env : Env} : ∀ {xs : List Expr}, xs.all notStar = true → (backTo pos (starEach xs env)).any (·.1) = false
  | [], _ => rfl
  | a :: xs, h => by
    rw [List.all_cons, Bool.and_eq_true] at h
    rw [starEach_cons h.1]
    show (false || (backTo pos (starEach xs env)).any (·.1)) = false
    rw [starEach_any h.2]
    rfl
def plainT : Expr → Bool
  | .UnaryOp .Not _ _ => false
  | .BoolOp _ _ _ => false
  | .IfExp _ _ _ _ => false
  | .Compare _ _ _ _ => false
  | _ => true
theorem plainT_eq {a : Expr} {env : Env} (h : plainT a = true) (whole : Sem Value) : isTrue a env whole = (do let v ← whole; standAt a.pos; holding [v] (truthy v)) := by
  cases a <;> first
    | (cases h; done)
    | (rename_i op _ _; cases op <;> first | rfl | (cases h; done))
    | rfl
def plainIx : Expr → Bool
  | .Slice _ _ none _ => false
  | _ => true
theorem plainIx_ok {r : Expr} (h : plainIx r = true) : PlainIx r := by
  intro o i
  cases r with
  | Slice l u st p => cases st <;> first | rfl | cases h
  | _ => rfl
def notSet : Expr → Bool
  | .Set _ _ _ => false
  | _ => true
theorem notSet_ok {iter : Expr} (h : notSet iter = true) (env : Env) (x : Value) : foldedSetIterable iter env x = pure x := by
  cases iter <;> first | rfl | cases h
def notComp : Expr → Bool
  | .ListComp _ _ _ _ => false
  | .SetComp _ _ _ _ => false
  | .DictComp _ _ _ _ _ => false
  | _ => true
theorem notComp_ok {e : Expr} (h : notComp e = true) (t : Option Expr) (l : Nat) (env : Env) : swapsWith e t l env = pure false := by
  cases e <;> first | rfl | cases h

/-! ### the check -/
mutual
def chkE (N : List Str) (sc : Scope) (cf : Str → Bool) : E → Expr → Bool
  | .bad, _ => true
  | .var i, .Name x _ => nameOk N sc i x
  | .cst d, .Constant c _ _ => cstOk d c
  | .gv x _, .Name y _ => decide (x = y) && glOk sc x
  | .bin o a b, .BinOp l op r _ => bopOk o op && chkE N sc cf a l && chkE N sc cf b r
  | .neg a, .UnaryOp .USub x _ => chkE N sc cf a x
  | .cmp o a b, .Compare l [op] [r] _ => copOk o op && !behindInMarks op r && chkE N sc cf a l && chkE N sc cf b r
  | .chn o o' a b c, .Compare x [op, op'] [y, z] _ => copOk o op && copOk o' op' && !lastMarks [op, op'] [y, z] && chkE N sc cf a x && chkE N sc cf b y && chkE N sc cf c z
  | .bool k es, .BoolOp op xs _ => decide (op = if k then .And else .Or) && chkB N sc cf es xs
  | .not_ a, .UnaryOp .Not x _ => chkE N sc cf a x
  | .ite t a b, .IfExp c x y _ => chkT N sc cf t c && chkE N sc cf a x && chkE N sc cf b y
  | .tup es, .Tuple xs _ _ => chkEs N sc cf es xs
  | .lst es, .List xs _ => chkEs N sc cf es xs
  | .idx a b, .Subscript l r _ => plainIx r && chkE N sc cf a l && chkE N sc cf b r
  | .rev a, .Subscript x (.Slice none none (some (.UnaryOp .USub (.Constant (.int i) _ _) _)) _) _ => decide (i = 1) && chkE N sc cf a x
  | .slc a lo hi, .Subscript x (.Slice l h none _) _ => chkE N sc cf a x && chkO N sc cf lo l && chkO N sc cf hi h
  | .lset a, .Call (.Name g _) [.Call (.Name g2 _) [x] [] _] [] _ => !cf "" && decide (g = ("len" : Str)) && decide (g2 = ("set" : Str)) && glOk sc "len" && glOk sc "set" && notStar x && chkE N sc cf a x
  | .callb g _ _ as, .Call (.Name x _) (y :: ys) [] _ => decide (x = g) && glOk sc g && chkAs N sc cf as (y :: ys)
  | .calln g _ _ e as, .Call (.Name x _) (y :: ys) [] _ => decide (x = g) && glOk sc g && notStar y && chkE N sc cf e y && chkAs N sc cf as ys
  | .bi b es, .Call (.Name x _) (e :: xs) [] _ => !cf "" && decide (x = biName b) && glOk sc (biName b) && chkEs N sc cf es (e :: xs)
  | .isi ty a, .Call (.Name g _) [x, .Name t _] [] _ => decide (g = ("isinstance" : Str)) && decide (t = tyName' ty) && glOk sc "isinstance" && glOk sc (tyName' ty) && notStar x && chkE N sc cf a x
  | .call g _ _ as, .Call (.Name x _) xs [] _ => decide (x = g) && glOk sc g && chkAs N sc cf as xs
  | .app i a, .Call (.Attribute (.Name x _) m ap) [y] [] cp => decide (m = ("append" : Str)) && nameOk N sc i x && notStar y && (ap.endLine == cp.line) && chkE N sc cf a y
  | .ext i a, .Call (.Attribute (.Name x _) m ap) [y] [] cp => decide (m = ("extend" : Str)) && nameOk N sc i x && notStar y && (ap.endLine == cp.line) && chkE N sc cf a y
  | .pop i .no, .Call (.Attribute (.Name x _) m ap) [] [] cp => decide (m = ("pop" : Str)) && nameOk N sc i x && (ap.endLine == cp.line)
  | .pop i (.so a), .Call (.Attribute (.Name x _) m ap) [y] [] cp => decide (m = ("pop" : Str)) && nameOk N sc i x && notStar y && (ap.endLine == cp.line) && chkE N sc cf a y
  | .rep a b, .BinOp l .Mult r _ => chkE N sc cf a l && chkE N sc cf b r
  | .clear i, .Call (.Attribute (.Name x _) m ap) [] [] cp => decide (m = ("clear" : Str)) && nameOk N sc i x && (ap.endLine == cp.line)
  | .isx i c _, .Call (.Name g _) [.Name x _, .Name y _] [] _ => cf "" && decide (g = ("isinstance" : Str)) && decide (y = c) && nameOk N sc i x && glOk sc "isinstance" && glOk sc c
  | .ist i cs _, .Call (.Name g _) [.Name x _, .Tuple es _ _] [] _ => cf "" && decide (g = ("isinstance" : Str)) && nameOk N sc i x && glOk sc "isinstance" && clsOk sc cs es && decide (cs.length ≤ 1000)
  | .plc i fl _, .Attribute (.Name x _) g _ => cf "" && decide (g = fl) && nameOk N sc i x
  | .dnew, .Dict [] [] _ => true
  | .odict i j, .Dict [some (.Constant (.int i') _ _)] [.Constant (.int j') _ _] _ => decide (i = i') && decide (j = j')
  | .d1 k v, .Dict [some x] [y] _ => chkE N sc cf k x && chkE N sc cf v y
  | .dgt1 d k, .Call (.Attribute (.Name x px) m ap) [y] [] cp => decide (m = ("get" : Str)) && notStar y && (ap.endLine == cp.line) && chkE N sc cf d (.Name x px) && chkE N sc cf k y
  | .dgt2 d k z, .Call (.Attribute (.Name x px) m ap) [y, y2] [] cp => decide (m = ("get" : Str)) && notStar y && notStar y2 && (ap.endLine == cp.line) && chkE N sc cf d (.Name x px) && chkE N sc cf k y && chkE N sc cf z y2
  | .dsf i k z, .Call (.Attribute (.Name x _) m ap) [y, y2] [] cp => decide (m = ("setdefault" : Str)) && nameOk N sc i x && notStar y && notStar y2 && (ap.endLine == cp.line) && chkE N sc cf k y && chkE N sc cf z y2
  | .lc own tg it c e, .ListComp elt [⟨t, iter, ifs, 0⟩] scope _ => !cf "" && (tgIx tg).all (own.map (·.2)).contains && notSet iter && blkC N sc scope own && chkI N sc cf it t iter && tgOk N (relS scope sc) (cfB scope) tg t &&
    chkC N (relS scope sc) (cfB scope) c ifs && chkE N (relS scope sc) (cfB scope) e elt
  | .lc2 own tg it tg1 it1 c e, .ListComp elt [⟨t, iter, [], 0⟩, ⟨t1, iter1, ifs, 0⟩] scope _ => !cf "" && (tgIx tg).all (own.map (·.2)).contains && (tgIx tg1).all (own.map (·.2)).contains && notSet iter && notSet iter1 && blkC N sc scope own && chkI N sc cf it t iter &&
    tgOk N (relS scope sc) (cfB scope) tg t && chkI N (relS scope sc) (cfB scope) it1 t1 iter1 && tgOk N (relS scope sc) (cfB scope) tg1 t1 &&
    chkC N (relS scope sc) (cfB scope) c ifs && chkE N (relS scope sc) (cfB scope) e elt
  | _, _ => false
def chkEs (N : List Str) (sc : Scope) (cf : Str → Bool) : Es → List Expr → Bool
  | .nil, [] => true
  | .cons e es, x :: xs => notStar x && chkE N sc cf e x && chkEs N sc cf es xs
  | _, _ => false
def chkB (N : List Str) (sc : Scope) (cf : Str → Bool) : Es → List Expr → Bool
  | .cons e .nil, [x] => chkE N sc cf e x
  | .cons e es, x :: y :: xs => chkE N sc cf e x && chkB N sc cf es (y :: xs)
  | _, _ => false
def chkAs (N : List Str) (sc : Scope) (cf : Str → Bool) : As → List Expr → Bool
  | .nil, [] => true
  | .val e as, x :: xs => notStar x && chkE N sc cf e x && chkAs N sc cf as xs
  | .io i as, .Name x _ :: xs => nameOk N sc i x && chkAs N sc cf as xs
  | _, _ => false
def chkT (N : List Str) (sc : Scope) (cf : Str → Bool) : T → Expr → Bool
  | .tru e, x => plainT x && chkE N sc cf e x
  | .cmp o a b, .Compare l [op] [r] _ => copOk o op && !behindInMarks op r && chkE N sc cf a l && chkE N sc cf b r
  | .chn o o' a b c, .Compare x [op, op'] [y, z] _ => copOk o op && copOk o' op' && !lastMarks [op, op'] [y, z] && chkE N sc cf a x && chkE N sc cf b y && chkE N sc cf c z
  | .bool k ts, .BoolOp op xs _ => decide (op = if k then .And else .Or) && chkTs N sc cf ts xs
  | .not_ a, .UnaryOp .Not x _ => chkT N sc cf a x
  | _, _ => false
def chkTs (N : List Str) (sc : Scope) (cf : Str → Bool) : Ts → List Expr → Bool
  | .cons t .nil, [x] => chkT N sc cf t x
  | .cons t ts, x :: y :: xs => chkT N sc cf t x && chkTs N sc cf ts (y :: xs)
  | _, _ => false
def chkO (N : List Str) (sc : Scope) (cf : Str → Bool) : O → Option Expr → Bool
  | .no, none => true
  | .so e, some x => chkE N sc cf e x
  | _, _ => false
def chkC (N : List Str) (sc : Scope) (cf : Str → Bool) : Option T → List Expr → Bool
  | none, [] => true
  | some t, [x] => chkT N sc cf t x
  | _, _ => false
def chkI (N : List Str) (sc : Scope) (cf : Str → Bool) : I → Expr → Expr → Bool
  | .lst e, _, x => chkE N sc cf e x
  | .rng1 a, _, .Call (.Name g _) [x] [] _ => decide (g = ("range" : Str)) && glOk sc "range" && notStar x && chkE N sc cf a x
  | .rng2 a b, _, .Call (.Name g _) [x, y] [] _ => decide (g = ("range" : Str)) && glOk sc "range" && notStar x && notStar y && chkE N sc cf a x && chkE N sc cf b y
  | .enum a, .Tuple _ _ _, .Call (.Name g _) [x] [] _ => decide (g = ("enumerate" : Str)) && glOk sc "enumerate" && notStar x && chkE N sc cf a x
  | .zip a b, .Tuple _ _ _, .Call (.Name g _) [x, y] [] _ => decide (g = ("zip" : Str)) && glOk sc "zip" && notStar x && notStar y && chkE N sc cf a x && chkE N sc cf b y
  | _, _, _ => false
end

theorem okEs_star {N : List Str} {sc : Scope} {cf : Str → Bool} : ∀ {es : Es} {x : Expr} {xs : List Expr}, chkEs N sc cf es (x :: xs) = true → notStar x = true ∧ xs.all notStar = true
  | .cons e .nil, x, [], h => by
    unfold chkEs at h
    simp only [Bool.and_eq_true] at h
    exact ⟨h.1.1, rfl⟩
  | .cons e (.cons e' es), x, [], h => by
    unfold chkEs at h
    simp only [Bool.and_eq_true] at h
    exact ⟨h.1.1, rfl⟩
  | .cons e es, x, y :: ys, h => by
    unfold chkEs at h
    simp only [Bool.and_eq_true] at h
    obtain ⟨k1, k2⟩ := okEs_star h.2
    exact ⟨h.1.1, by rw [List.all_cons, k1, k2]; rfl⟩
  | .nil, x, xs, h => by unfold chkEs at h; cases h
theorem okAs_star {N : List Str} {sc : Scope} {cf : Str → Bool} : ∀ {es : As} {x : Expr} {xs : List Expr}, chkAs N sc cf es (x :: xs) = true → notStar x = true ∧ xs.all notStar = true
  | .val e as, x, [], h => by
    unfold chkAs at h
    simp only [Bool.and_eq_true] at h
    exact ⟨h.1.1, rfl⟩
  | .val e es, x, y :: ys, h => by
    unfold chkAs at h
    simp only [Bool.and_eq_true] at h
    obtain ⟨k1, k2⟩ := okAs_star h.2
    exact ⟨h.1.1, by rw [List.all_cons, k1, k2]; rfl⟩
  | .io i as, .Name x p, [], h => ⟨rfl, rfl⟩
  | .io i as, .Name x p, y :: ys, h => by
    unfold chkAs at h
    simp only [Bool.and_eq_true] at h
    obtain ⟨k1, k2⟩ := okAs_star h.2
    exact ⟨rfl, by rw [List.all_cons, k1, k2]; rfl⟩
  | .io i as, .BoolOp .., _, h => by unfold chkAs at h; cases h
  | .io i as, .NamedExpr .., _, h => by unfold chkAs at h; cases h
  | .io i as, .BinOp .., _, h => by unfold chkAs at h; cases h
  | .io i as, .UnaryOp .., _, h => by unfold chkAs at h; cases h
  | .io i as, .Lambda .., _, h => by unfold chkAs at h; cases h
  | .io i as, .IfExp .., _, h => by unfold chkAs at h; cases h
  | .io i as, .Dict .., _, h => by unfold chkAs at h; cases h
  | .io i as, .Set .., _, h => by unfold chkAs at h; cases h
  | .io i as, .ListComp .., _, h => by unfold chkAs at h; cases h
  | .io i as, .SetComp .., _, h => by unfold chkAs at h; cases h
  | .io i as, .DictComp .., _, h => by unfold chkAs at h; cases h
  | .io i as, .GeneratorExp .., _, h => by unfold chkAs at h; cases h
  | .io i as, .Await .., _, h => by unfold chkAs at h; cases h
  | .io i as, .Yield .., _, h => by unfold chkAs at h; cases h
  | .io i as, .YieldFrom .., _, h => by unfold chkAs at h; cases h
  | .io i as, .Compare .., _, h => by unfold chkAs at h; cases h
  | .io i as, .Call .., _, h => by unfold chkAs at h; cases h
  | .io i as, .FormattedValue .., _, h => by unfold chkAs at h; cases h
  | .io i as, .JoinedStr .., _, h => by unfold chkAs at h; cases h
  | .io i as, .Constant .., _, h => by unfold chkAs at h; cases h
  | .io i as, .Attribute .., _, h => by unfold chkAs at h; cases h
  | .io i as, .Subscript .., _, h => by unfold chkAs at h; cases h
  | .io i as, .Starred .., _, h => by unfold chkAs at h; cases h
  | .io i as, .List .., _, h => by unfold chkAs at h; cases h
  | .io i as, .Tuple .., _, h => by unfold chkAs at h; cases h
  | .io i as, .Slice .., _, h => by unfold chkAs at h; cases h
  | .nil, x, xs, h => by unfold chkAs at h; cases h

theorem okAs_all {N : List Str} {sc : Scope} {cf : Str → Bool} {es : As} : ∀ {xs : List Expr}, chkAs N sc cf es xs = true → xs.all notStar = true
  | [], _ => rfl
  | x :: xs, h => by
    obtain ⟨k1, k2⟩ := okAs_star h
    rw [List.all_cons, k1, k2]
    rfl

/-! ### what must be known -/
mutual
def needE (M : Md) : E → Prop
  | .gv x d => GvOk M.K M.mg x d
  | .bin _ a b => needE M a ∧ needE M b
  | .neg a => needE M a
  | .cmp _ a b => needE M a ∧ needE M b
  | .chn _ _ a b c => needE M a ∧ needE M b ∧ needE M c
  | .bool _ es => needEs M es
  | .not_ a => needE M a
  | .ite t a b => needT M t ∧ needE M a ∧ needE M b
  | .tup es => needEs M es
  | .lst es => needEs M es
  | .idx a b => needE M a ∧ needE M b
  | .slc a lo hi => needE M a ∧ needO M lo ∧ needO M hi
  | .rev a => needE M a
  | .bi _ es => needEs M es
  | .isi _ a => needE M a
  | .call f m dv as => KnF M f m (asIos as ++ falses dv.length) dv ∧ needAs M as
  | .lset a => needE M a
  | .callb f m dv as => KnF M f m (falses (asIos as).length ++ falses dv.length) dv ∧ needAs M as
  | .calln f m dv e as => KnF M f m (true :: (asIos as ++ falses dv.length)) dv ∧ needE M e ∧ needAs M as
  | .app _ e => needE M e
  | .ext _ e => needE M e
  | .pop _ k => needO M k
  | .rep a b => needE M a ∧ needE M b
  | .isx _ c t => XkN M.K.K M.mg c t
  | .ist _ cs t => XkT M.K.K M.mg cs t
  | .plc _ fl cs => PlN M.K.K M.mg fl cs
  | .d1 k v => needE M k ∧ needE M v
  | .dgt1 d k => needE M d ∧ needE M k
  | .dgt2 d k x => needE M d ∧ needE M k ∧ needE M x
  | .dsf _ k x => needE M k ∧ needE M x
  | .lc _ _ it c e => needI M it ∧ needC M c ∧ needE M e
  | .lc2 _ _ it _ it1 c e => needI M it ∧ needI M it1 ∧ needC M c ∧ needE M e
  | _ => True
def needEs (M : Md) : Es → Prop
  | .nil => True
  | .cons e es => needE M e ∧ needEs M es
def needAs (M : Md) : As → Prop
  | .nil => True
  | .val e as => needE M e ∧ needAs M as
  | .io _ as => needAs M as
def needT (M : Md) : T → Prop
  | .tru e => needE M e
  | .cmp _ a b => needE M a ∧ needE M b
  | .chn _ _ a b c => needE M a ∧ needE M b ∧ needE M c
  | .bool _ ts => needTs M ts
  | .not_ a => needT M a
def needTs (M : Md) : Ts → Prop
  | .nil => True
  | .cons t ts => needT M t ∧ needTs M ts
def needO (M : Md) : O → Prop
  | .no => True
  | .so e => needE M e
def needC (M : Md) : Option T → Prop
  | none => True
  | some t => needT M t
def needI (M : Md) : I → Prop
  | .lst e => needE M e
  | .rng1 e => needE M e
  | .rng2 a b => needE M a ∧ needE M b
  | .enum e => needE M e
  | .zip a b => needE M a ∧ needE M b
end
end Ev

-- Ev11
/-! Ev11: every checked expression. -/
namespace Ev
open PySem L2

section
variable {X : Cx} {N : List Str} {sc scope : Scope} {cf : Str → Bool} {G : Gx} {pos p : Pos}
theorem Fit.blk (f : Fit X N sc G) (hc : X.calm = true) (F : Frm) (s : Shared) (H : Hp) (C : Addr) (cl : List (Str × Addr)) (fp : List Addr) : Fit (X.blk s H scope (compEnvC scope cl C X.env) fp) N (relS scope sc) (Gb G.K G.mg F) :=
  ⟨f.hN, f.nd, by show relS scope X.env.scope = _; rw [f.sc], f.un, f.K, f.mg, takes0, f.bn, fun z => absurd (hc.symm.trans z) (by decide)⟩
theorem cf_blk (hc : X.calm = true) {s : Shared} {H : Hp} {cenv : Env} {fp : List Addr} : CfOk (X.blk s H scope cenv fp) (cfB scope) := ⟨fun x h => by
  have h2 := h.2
  unfold cfB at h2
  rw [Bool.and_eq_true] at h2
  exact h2.2, fun _ => hc, fun z => by unfold cfB at z; simp at z⟩
theorem pe_ex {α : Type} {e : Expr} {t : α → TE} (h : ∀ a, PE X e (t a)) : PE X e fun σ H Q => ∃ a, t a σ H Q := ⟨fun pins s σ H Q I ⟨a, q⟩ => (h a).run pins s σ H Q I q⟩
theorem pts_ex {α : Type} {e : List Expr} {t : α → TT} (h : ∀ a, PTs X e (t a)) : PTs X e fun σ H Q => ∃ a, t a σ H Q := ⟨fun pins s σ H Q I ⟨a, q⟩ => (h a).run pins s σ H Q I q⟩
theorem pg_ex {α : Type} {e : Expr} {t : α → TG} (h : ∀ a, PG X e (t a)) : PG X e fun v σ H Q => ∃ a, t a v σ H Q := ⟨fun pins s σ H v u Q I r ⟨a, q⟩ => (h a).run pins s σ H v u Q I r q⟩
theorem pi_ex {α : Type} {tg e : Expr} {t : α → TI} (h : ∀ a, PI X tg e (t a)) : PI X tg e fun σ H Q => ∃ a, t a σ H Q := ⟨fun pins s σ H Q I ⟨a, q⟩ => (h a).run pins s σ H Q I q⟩
theorem s_bad {e : Expr} : PE X e (tE G .bad) := ⟨fun _ _ _ _ _ _ ⟨_, _, _, _, p⟩ => by unfold evalE at p; exact p.elim⟩
theorem bn_bi (f : Fit X N sc G) (b : Bi) : X.mg (biName b) = none := f.bn _ (by cases b <;> decide)
theorem bn_ty (f : Fit X N sc G) (t : Ty) : X.mg (tyName' t) = none := f.bn _ (by cases t <;> decide)
end

mutual
theorem okE {X : Cx} {N : List Str} {sc : Scope} {cf : Str → Bool} {G : Gx} (f : Fit X N sc G) (cc : CfOk X cf) (ei : E) (x : Expr) (h : chkE N sc cf ei x = true) (n : needE X.md ei) : PE X x (tE G ei) := by
  unfold chkE at h
  unfold needE at n
  split at h
  · exact s_bad
  · exact s_var f h
  · exact s_cst h
  · rw [Bool.and_eq_true, decide_eq_true_eq] at h
    obtain ⟨rfl, h⟩ := h
    exact s_gv f h n
  · simp only [Bool.and_eq_true] at h
    exact s_bin f h.1.1 (okE f cc _ _ h.1.2 n.1) (okE f cc _ _ h.2 n.2)
  · exact s_neg f (okE f cc _ _ h n)
  · simp only [Bool.and_eq_true, Bool.not_eq_true'] at h
    exact s_cmp f h.1.1.1 h.1.1.2 (okE f cc _ _ h.1.2 n.1) (okE f cc _ _ h.2 n.2)
  · simp only [Bool.and_eq_true, Bool.not_eq_true'] at h
    exact s_chn f h.1.1.1.1.1 h.1.1.1.1.2 h.1.1.1.2 (okE f cc _ _ h.1.1.2 n.1) (okE f cc _ _ h.1.2 n.2.1) (okE f cc _ _ h.2 n.2.2)
  · rw [Bool.and_eq_true, decide_eq_true_eq] at h
    exact s_bool (okB f cc _ _ h.1 h.2 n)
  · exact s_not f (okE f cc _ _ h n)
  · simp only [Bool.and_eq_true] at h
    exact s_ite (okT f cc _ _ h.1.1 n.1) (okE f cc _ _ h.1.2 n.2.1) (okE f cc _ _ h.2 n.2.2)
  · exact s_tup (okEs f cc _ _ h n)
  · exact s_lst (okEs f cc _ _ h n)
  · simp only [Bool.and_eq_true] at h
    exact s_idx f (plainIx_ok h.1.1) (okE f cc _ _ h.1.2 n.1) (okE f cc _ _ h.2 n.2)
  · simp only [Bool.and_eq_true, decide_eq_true_eq] at h
    obtain ⟨rfl, h⟩ := h
    exact s_rev f (okE f cc _ _ h n)
  · simp only [Bool.and_eq_true] at h
    exact s_slc f (okE f cc _ _ h.1.1 n.1) (okO f cc _ _ h.1.2 n.2.1) (okO f cc _ _ h.2 n.2.2)
  · simp only [Bool.and_eq_true, decide_eq_true_eq] at h
    obtain ⟨⟨⟨⟨⟨⟨h0, rfl⟩, rfl⟩, h1⟩, h2⟩, h3⟩, h4⟩ := h
    exact s_lset f (cc.calm h0) h1 (f.bn _ (by decide)) h2 (f.bn _ (by decide)) (okE f cc _ _ h4 n) (starEach_cons h3)
  · simp only [Bool.and_eq_true, decide_eq_true_eq] at h
    obtain ⟨⟨rfl, h1⟩, h2⟩ := h
    obtain ⟨k1, k2⟩ := okAs_star h2
    exact s_callb f h1 n.1 (okAs f cc _ _ h2 n.2) (starEach_cons k1) (starEach_any k2)
  · simp only [Bool.and_eq_true, decide_eq_true_eq] at h
    obtain ⟨⟨⟨⟨rfl, h1⟩, h2⟩, h3⟩, h4⟩ := h
    exact s_calln f h1 n.1 (s_asN (okE f cc _ _ h3 n.2.1) (okAs f cc _ _ h4 n.2.2) (starEach_cons h2)) (starEach_cons h2) (starEach_any (okAs_all h4))
  · simp only [Bool.and_eq_true, decide_eq_true_eq] at h
    obtain ⟨⟨⟨h0, rfl⟩, h1⟩, h2⟩ := h
    obtain ⟨k1, k2⟩ := okEs_star h2
    exact s_bi f (cc.calm h0) h1 (bn_bi f _) (okEs f cc _ _ h2 n) (starEach_cons k1) (starEach_any k2)
  · simp only [Bool.and_eq_true, decide_eq_true_eq] at h
    obtain ⟨⟨⟨⟨⟨rfl, rfl⟩, h1⟩, h2⟩, h3⟩, h4⟩ := h
    exact s_isi f h1 (f.bn _ (by decide)) h2 (bn_ty f _) (okE f cc _ _ h4 n) (starEach_cons h3)
  · rename_i g m dv as nm px xs pos
    simp only [Bool.and_eq_true, decide_eq_true_eq] at h
    obtain ⟨⟨rfl, h1⟩, h2⟩ := h
    cases xs with
    | nil =>
      cases as with
      | nil => exact s_call0 f h1 n.1
      | val _ _ => simp [chkAs] at h2
      | io _ _ => simp [chkAs] at h2
    | cons y ys =>
      obtain ⟨k1, k2⟩ := okAs_star h2
      exact s_call f h1 n.1 (okAs f cc _ _ h2 n.2) (starEach_cons k1) (starEach_any k2)
  · simp only [Bool.and_eq_true, decide_eq_true_eq] at h
    obtain ⟨⟨⟨⟨rfl, h1⟩, h2⟩, h3⟩, h4⟩ := h
    exact s_app f h1 (okE f cc _ _ h4 n) (starEach_cons h2) h3
  · simp only [Bool.and_eq_true, decide_eq_true_eq] at h
    obtain ⟨⟨⟨⟨rfl, h1⟩, h2⟩, h3⟩, h4⟩ := h
    exact s_ext f h1 (okE f cc _ _ h4 n) (starEach_cons h2) h3
  · simp only [Bool.and_eq_true, decide_eq_true_eq] at h
    obtain ⟨⟨rfl, h1⟩, h3⟩ := h
    exact s_pop0 f h1 h3
  · simp only [Bool.and_eq_true, decide_eq_true_eq] at h
    obtain ⟨⟨⟨⟨rfl, h1⟩, h2⟩, h3⟩, h4⟩ := h
    unfold needO at n
    exact s_pop1 f h1 (okE f cc _ _ h4 n) (starEach_cons h2) h3
  · simp only [Bool.and_eq_true] at h
    exact s_rep (okE f cc _ _ h.1 n.1) (okE f cc _ _ h.2 n.2)
  · simp only [Bool.and_eq_true, decide_eq_true_eq] at h
    obtain ⟨⟨rfl, h1⟩, h3⟩ := h
    exact s_clear f h1 h3
  · simp only [Bool.and_eq_true, decide_eq_true_eq] at h
    obtain ⟨⟨⟨⟨⟨h0, rfl⟩, rfl⟩, h1⟩, h2⟩, h3⟩ := h
    exact s_isx f (cc.hot h0) h1 h2 (f.bn _ (by decide)) h3 n
  · simp only [Bool.and_eq_true, decide_eq_true_eq] at h
    obtain ⟨⟨⟨⟨⟨h0, rfl⟩, h1⟩, h2⟩, h3⟩, h4⟩ := h
    exact s_ist f (cc.hot h0) h4 h1 h2 (f.bn _ (by decide)) h3 n
  · simp only [Bool.and_eq_true, decide_eq_true_eq] at h
    obtain ⟨⟨h0, rfl⟩, h1⟩ := h
    exact s_plc f (cc.hot h0) h1 n
  · exact s_dnew f
  · simp only [Bool.and_eq_true, decide_eq_true_eq] at h
    obtain ⟨rfl, rfl⟩ := h
    exact s_odict f
  · simp only [Bool.and_eq_true] at h
    exact s_d1 f (okE f cc _ _ h.1 n.1) (okE f cc _ _ h.2 n.2)
  · simp only [Bool.and_eq_true, decide_eq_true_eq] at h
    obtain ⟨⟨⟨⟨rfl, h1⟩, h2⟩, h3⟩, h4⟩ := h
    exact s_dgt1 f (okE f cc _ _ h3 n.1) (okE f cc _ _ h4 n.2) rfl (starEach_cons h1) h2
  · simp only [Bool.and_eq_true, decide_eq_true_eq] at h
    obtain ⟨⟨⟨⟨⟨⟨rfl, h1⟩, h1'⟩, h2⟩, h3⟩, h4⟩, h5⟩ := h
    exact s_dgt2 f (okE f cc _ _ h3 n.1) (okE f cc _ _ h4 n.2.1) (okE f cc _ _ h5 n.2.2) rfl (starEach_cons h1) (starEach_cons h1') h2
  · simp only [Bool.and_eq_true, decide_eq_true_eq] at h
    obtain ⟨⟨⟨⟨⟨⟨rfl, h0⟩, h1⟩, h1'⟩, h2⟩, h4⟩, h5⟩ := h
    exact s_dsf f h0 (okE f cc _ _ h4 n.1) (okE f cc _ _ h5 n.2) (starEach_cons h1) (starEach_cons h1') h2
  · simp only [Bool.and_eq_true] at h
    obtain ⟨⟨⟨⟨⟨⟨⟨h0, h1⟩, h2⟩, h3⟩, h4⟩, h5⟩, h6⟩, h7⟩ := h
    have h0 := cc.calm h0
    refine PE.imp (pe_lc h0 f.nd (okI f cc _ _ _ h4 n.1) (f.hN ▸ f.sc ▸ blkOk_by h3) (fun s H C cl fp => pg_ex fun F => s_tg (f.blk h0 F s H C cl fp) (cf_blk h0) h5)
      (fun s H C cl fp => pts_ex fun F => okC (f.blk h0 F s H C cl fp) (cf_blk h0) _ _ h6 n.2.1) (fun s H C cl fp => pe_ex fun F => okE (f.blk h0 F s H C cl fp) (cf_blk h0) _ _ h7 n.2.2) (notSet_ok h2 _)) fun σ H Q q => lc_red h1 q
  · simp only [Bool.and_eq_true] at h
    obtain ⟨⟨⟨⟨⟨⟨⟨⟨⟨⟨⟨h0, h1⟩, h1'⟩, h2⟩, h2'⟩, h3⟩, h4⟩, h5⟩, h4'⟩, h5'⟩, h6⟩, h7⟩ := h
    have h0 := cc.calm h0
    refine PE.imp (pe_lc2 h0 f.nd (okI f cc _ _ _ h4 n.1) (f.hN ▸ f.sc ▸ blkOk_by h3) (fun i hi => by simpa using List.all_eq_true.mp h1' i hi) (fun s H C cl fp => pg_ex fun F => s_tg (f.blk h0 F s H C cl fp) (cf_blk h0) h5)
      (fun _ _ _ _ _ => pts_nil) (fun s H C cl fp => pi_ex fun F => okI (f.blk h0 F s H C cl fp) (cf_blk h0) _ _ _ h4' n.2.1) (fun s H C cl fp => pg_ex fun F => s_tg (f.blk h0 F s H C cl fp) (cf_blk h0) h5')
      (fun s H C cl fp => pts_ex fun F => okC (f.blk h0 F s H C cl fp) (cf_blk h0) _ _ h6 n.2.2.1) (fun s H C cl fp => pe_ex fun F => okE (f.blk h0 F s H C cl fp) (cf_blk h0) _ _ h7 n.2.2.2) (notSet_ok h2 _) (fun env => notSet_ok h2' env)) fun σ H Q q => lc2_red h1 h1' q
  · cases h
termination_by sizeOf ei
theorem okEs {X : Cx} {N : List Str} {sc : Scope} {cf : Str → Bool} {G : Gx} (f : Fit X N sc G) (cc : CfOk X cf) (ei : Es) (x : List Expr) (h : chkEs N sc cf ei x = true) (n : needEs X.md ei) : PA X x (tEs G ei) := by
  unfold chkEs at h
  unfold needEs at n
  split at h
  · exact s_es0
  · simp only [Bool.and_eq_true] at h
    exact s_es1 (okE f cc _ _ h.1.2 n.1) (okEs f cc _ _ h.2 n.2) (starEach_cons h.1.1)
  · cases h
termination_by sizeOf ei
theorem okB {X : Cx} {N : List Str} {sc : Scope} {cf : Str → Bool} {G : Gx} (f : Fit X N sc G) (cc : CfOk X cf) {op : BoolOp} {k : Bool} {pos : Pos} (ei : Es) (x : List Expr) (hk : op = if k then .And else .Or) (h : chkB N sc cf ei x = true) (n : needEs X.md ei) : PE X (.BoolOp op x pos) (tB' G k ei) := by
  unfold chkB at h
  unfold needEs at n
  split at h
  · exact s_b1 (okE f cc _ _ h n.1)
  · rename_i e es x y xs
    simp only [Bool.and_eq_true] at h
    cases es with
    | nil => unfold chkB at h; simp at h
    | cons e' es => exact s_b2 hk (okE f cc _ _ h.1 n.1) (okB f cc _ _ hk h.2 n.2)
  · cases h
termination_by sizeOf ei
theorem okAs {X : Cx} {N : List Str} {sc : Scope} {cf : Str → Bool} {G : Gx} (f : Fit X N sc G) (cc : CfOk X cf) (ei : As) (x : List Expr) (h : chkAs N sc cf ei x = true) (n : needAs X.md ei) : PA X x (tAs G ei) := by
  unfold chkAs at h
  unfold needAs at n
  split at h
  · exact s_as0
  · simp only [Bool.and_eq_true] at h
    exact s_as1 (okE f cc _ _ h.1.2 n.1) (okAs f cc _ _ h.2 n.2) (starEach_cons h.1.1)
  · simp only [Bool.and_eq_true] at h
    exact s_as2 f h.1 (okAs f cc _ _ h.2 n)
  · cases h
termination_by sizeOf ei
theorem okT {X : Cx} {N : List Str} {sc : Scope} {cf : Str → Bool} {G : Gx} (f : Fit X N sc G) (cc : CfOk X cf) (ei : T) (x : Expr) (h : chkT N sc cf ei x = true) (n : needT X.md ei) : PT X x (tT G ei) := by
  cases ei with
  | tru e =>
    unfold chkT at h
    rw [Bool.and_eq_true] at h
    exact s_tru f (plainT_eq h.1) (okE f cc e x h.2 n)
  | cmp o a b =>
    unfold chkT at h
    split at h
    · rename_i e; cases e
    · rename_i e; cases e
      simp only [Bool.and_eq_true, Bool.not_eq_true'] at h
      exact s_tcmp f h.1.1.1 h.1.1.2 (okE f cc _ _ h.1.2 n.1) (okE f cc _ _ h.2 n.2)
    all_goals first | (cases h; done) | (rename_i e; cases e)
  | chn o o' a b c =>
    unfold chkT at h
    split at h
    all_goals first | (cases h; done) | skip
    all_goals (rename_i e; cases e)
    simp only [Bool.and_eq_true, Bool.not_eq_true'] at h
    exact s_tchn f h.1.1.1.1.1 h.1.1.1.1.2 h.1.1.1.2 (okE f cc _ _ h.1.1.2 n.1) (okE f cc _ _ h.1.2 n.2.1) (okE f cc _ _ h.2 n.2.2)
  | bool k ts =>
    unfold chkT at h
    split at h
    all_goals first | (cases h; done) | skip
    all_goals (rename_i e; cases e)
    rw [Bool.and_eq_true, decide_eq_true_eq] at h
    exact s_tbool (okTs f cc _ _ h.1 h.2 n)
  | not_ a =>
    unfold chkT at h
    split at h
    all_goals first | (cases h; done) | skip
    all_goals (rename_i e; cases e)
    exact s_tnot (okT f cc _ _ h n)
termination_by sizeOf ei
theorem okTs {X : Cx} {N : List Str} {sc : Scope} {cf : Str → Bool} {G : Gx} (f : Fit X N sc G) (cc : CfOk X cf) {op : BoolOp} {k : Bool} {pos : Pos} (ei : Ts) (x : List Expr) (hk : op = if k then .And else .Or) (h : chkTs N sc cf ei x = true) (n : needTs X.md ei) : PW X (.BoolOp op x pos) (tTs G k ei) := by
  unfold chkTs at h
  unfold needTs at n
  split at h
  · exact s_ts1 hk (okT f cc _ _ h n.1)
  · rename_i e es x y xs
    simp only [Bool.and_eq_true] at h
    cases es with
    | nil => unfold chkTs at h; simp at h
    | cons e' es => exact s_ts2 hk (okT f cc _ _ h.1 n.1) (okTs f cc _ _ hk h.2 n.2)
  · cases h
termination_by sizeOf ei
theorem okO {X : Cx} {N : List Str} {sc : Scope} {cf : Str → Bool} {G : Gx} (f : Fit X N sc G) (cc : CfOk X cf) (ei : O) (x : Option Expr) (h : chkO N sc cf ei x = true) (n : needO X.md ei) : PO X x (tO G ei) := by
  unfold chkO at h
  unfold needO at n
  split at h
  · exact s_o0
  · exact s_o1 (okE f cc _ _ h n)
  · cases h
termination_by sizeOf ei
theorem okC {X : Cx} {N : List Str} {sc : Scope} {cf : Str → Bool} {G : Gx} (f : Fit X N sc G) (cc : CfOk X cf) (ei : Option T) (x : List Expr) (h : chkC N sc cf ei x = true) (n : needC X.md ei) : PTs X x (tC G ei) := by
  unfold chkC at h
  unfold needC at n
  split at h
  · exact ⟨fun pins s σ H Q I ⟨ρ, ts, vs, c, p⟩ => pts_nil.run pins s σ H Q I (by unfold evalC at p; exact p H c)⟩
  · exact ⟨fun pins s σ H Q I ⟨ρ, ts, vs, c, p⟩ => (pts_one (okT f cc _ _ h n)).run pins s σ H Q I ⟨ρ, ts, vs, c, by unfold evalC at p; exact p⟩⟩
  · cases h
termination_by sizeOf ei
theorem okI {X : Cx} {N : List Str} {sc : Scope} {cf : Str → Bool} {G : Gx} (f : Fit X N sc G) (cc : CfOk X cf) (ei : I) (tg x : Expr) (h : chkI N sc cf ei tg x = true) (n : needI X.md ei) : PI X tg x (tI G ei) := by
  unfold chkI at h
  unfold needI at n
  split at h
  · exact s_ilst f (okE f cc _ _ h n)
  · simp only [Bool.and_eq_true, decide_eq_true_eq] at h
    obtain ⟨⟨⟨rfl, h1⟩, h2⟩, h3⟩ := h
    exact s_irng1 f h1 (f.bn _ (by decide)) (okE f cc _ _ h3 n) (starEach_cons h2)
  · simp only [Bool.and_eq_true, decide_eq_true_eq] at h
    obtain ⟨⟨⟨⟨⟨rfl, h1⟩, h2⟩, h2'⟩, h3⟩, h4⟩ := h
    exact s_irng2 f h1 (f.bn _ (by decide)) (okE f cc _ _ h3 n.1) (okE f cc _ _ h4 n.2) (starEach_cons h2) (starEach_cons h2')
  · simp only [Bool.and_eq_true, decide_eq_true_eq] at h
    obtain ⟨⟨⟨rfl, h1⟩, h2⟩, h3⟩ := h
    exact s_ienum f h1 (f.bn _ (by decide)) (okE f cc _ _ h3 n) (starEach_cons h2)
  · simp only [Bool.and_eq_true, decide_eq_true_eq] at h
    obtain ⟨⟨⟨⟨⟨rfl, h1⟩, h2⟩, h2'⟩, h3⟩, h4⟩ := h
    exact s_izip f h1 (f.bn _ (by decide)) (okE f cc _ _ h3 n.1) (okE f cc _ _ h4 n.2) (starEach_cons h2) (starEach_cons h2') (starEach_any (by rw [List.all_cons, h2']; rfl))
  · cases h
termination_by sizeOf ei
end
end Ev

-- Ev12
/-! Ev12: statements. -/
namespace Ev
open PySem L2

def OutR (G : Gx) (D : Ends) (o : Out) : Prop := match o with
  | .next ρ => ∀ σ H, Conf G.K G.F ρ [] σ [] H → D.nx σ H
  | .brk ρ => ∀ σ H, Conf G.K G.F ρ [] σ [] H → D.bk σ H
  | .cnt ρ => ∀ σ H, Conf G.K G.F ρ [] σ [] H → D.ct σ H
  | .ret t ρ => ∀ v σ H, Conf G.K G.F ρ [t] σ [v] H → D.rt v H
  | .exc x ρ => ∀ cls dd σ H, ConfE G ρ [] σ [] H x cls dd → G.W cls dd σ H
  | .bad => False
def tS (G : Gx) (n : Nat) (s : S) : TS := fun D σ H => ∃ ρ, Conf G.K G.F ρ [] σ [] H ∧ OutR G D (evalS n s ρ)
def tSs (G : Gx) (n : Nat) (s : Ss) : TS := fun D σ H => ∃ ρ, Conf G.K G.F ρ [] σ [] H ∧ OutR G D (evalSs n s ρ)
def Gf (G : Gx) (F : Frm) : Gx := { G with F := { F with xa := G.F.xa } }
def tSf (G : Gx) (n : Nat) (s : Ss) : TS := fun D σ H => ∃ F, tSs (Gf G F) n s D σ H
def gOg (G : Gx) (tg : Tg) : TG := fun v σ H Q => ∃ F, gOf (Gf G F) tg v σ H Q
structure FitS (X : Cx) (N : List Str) (sc : Scope) (cf : Str → Bool) (G : Gx) : Prop where
  fit : Fit X N sc G
  cc : CfOk X cf
  po : PassesOwn (model X.prog X.w) X.A X.env X.xe
  st : X.stack = X.env :: X.outer
  fr : X.env.frame = some X.env.locals
  nx : X.calm = true → G.F.xa = none
theorem FitS.frm {X : Cx} {N : List Str} {sc : Scope} {cf : Str → Bool} {G : Gx} (f : FitS X N sc cf G) (F : Frm) : FitS X N sc cf (Gf G F) :=
  ⟨⟨f.fit.hN, f.fit.nd, f.fit.sc, f.fit.un, f.fit.K, f.fit.mg, f.fit.tk, f.fit.bn, f.fit.xa⟩, f.cc, f.po, f.st, f.fr, f.nx⟩
theorem PS.imp {X : Cx} {e : Stmt} {t t' : TS} (h : PS X e t) (hi : ∀ D σ H, t' D σ H → t D σ H) : PS X e t' := ⟨fun pins s σ H D I q => h.run pins s σ H D I (hi D σ H q)⟩
theorem PSs.imp {X : Cx} {e : List Stmt} {t t' : TS} (h : PSs X e t) (hi : ∀ D σ H, t' D σ H → t D σ H) : PSs X e t' := ⟨fun pins s σ H D I q => h.run pins s σ H D I (hi D σ H q)⟩
theorem pss_ex {X : Cx} {α : Type} {e : List Stmt} {t : α → TS} (h : ∀ a, PSs X e (t a)) : PSs X e fun D σ H => ∃ a, t a D σ H := ⟨fun pins s σ H D I ⟨a, q⟩ => (h a).run pins s σ H D I q⟩

section
variable {G : Gx} {D : Ends} {σ : St} {H : Hp} {α : Type}
theorem OutR.out {r : Res α} {f : α → Rho → Out} (p : OutR G D (r.out f)) (σ : St) : PostR G [] σ [] r fun a ρ => OutR G D (f a ρ) := by
  cases r with
  | ok a ρ => exact p
  | exc x ρ => exact fun cls dd H c => p cls dd σ H c
  | bad => exact p
theorem nextO_post {o : Option Rho} (p : OutR G D (nextO o)) : ∃ ρ, o = some ρ ∧ ∀ σ H, Conf G.K G.F ρ [] σ [] H → D.nx σ H := by
  cases o with
  | none => exact p.elim
  | some ρ => exact ⟨ρ, rfl, p⟩
theorem out_take {t : Tm} {ρ : Rho} {f : Ev.D → Rho → Out} (p : OutR G D ((take t ρ).out f)) : ∃ d ρ', t.get ρ = some d ∧ t.esc ρ = some ρ' ∧ OutR G D (f d ρ') := by
  unfold take at p
  split at p
  · exact ⟨_, _, by assumption, by assumption, p⟩
  · exact p.elim
theorem Cf.setOw {K : Fw} {F : Frm} {S H : Hp} {ρ : Rho} {ts : List Tm} {σ : St} {v : V} {vs : List V} {as bs : List Addr} {i : Nat} {d : Ev.D} (c : Cf K F S ρ (.ow d :: ts) σ (v :: vs) H as bs) (n : NoBr ts) (hi : i < ρ.length) :
    ∃ as' bs', Cf K F S (ρ.set i (.ow d)) ts (σ.set i (some v)) vs H as' bs' := by
  cases h : c.tms with
  | cons h1 r =>
    rename_i xs ys
    cases h1 with
    | ow ow hn =>
      rename_i a
      obtain ⟨o, x1, x2, x3, g1, g2, g3, g4⟩ := c.slots.at (List.getElem?_eq_getElem hi)
      have sl := g4 (H' := H) (S' := S) (s' := .ow d) (o' := some (.ref a)) (ys' := [a]) (Same.refl _) (fun _ _ _ h => h) (.ow ow hn)
      have nd := c.nd
      rw [g3] at nd
      have hp : ((x1 ++ x3) ++ (x2 ++ ([a] ++ ys))).Nodup := by
        refine List.Perm.nodup ?_ nd
        have : (x1 ++ (x2 ++ x3)) ++ ([a] ++ ys) = x1 ++ ((x2 ++ x3) ++ ([a] ++ ys)) := by simp
        rw [this, List.append_assoc x1 x3]
        refine List.Perm.append_left _ ?_
        rw [List.append_assoc]
        refine List.Perm.trans ?_ (List.perm_append_comm_assoc x2 x3 _)
        exact List.Perm.refl _
      refine ⟨x1 ++ ([a] ++ x3), ys, c.sub, c.s0, c.new, c.keep, c.iod, sl, r.move n, ?_, fun b hb => c.out b ?_⟩
      · have hs : ((x1 ++ x3) ++ ([a] ++ ys)).Nodup := hp.sublist (List.Sublist.append (List.Sublist.refl _) (List.sublist_append_right _ _))
        refine List.Perm.nodup ?_ hs
        rw [List.append_assoc, List.append_assoc]
        refine List.Perm.append_left _ ?_
        rw [← List.append_assoc]
        exact List.Perm.append_right _ List.perm_append_comm
      · rw [g3]
        simp only [List.mem_append, List.mem_cons, List.not_mem_nil, or_false] at hb ⊢
        rcases hb with (z | z | z) | z
        · exact .inl (.inl z)
        · exact .inr (.inl z)
        · exact .inl (.inr (.inr z))
        · exact .inr (.inr z)
theorem nobr_nil : NoBr [] := fun _ h => by cases h
/-- name = value -/
theorem asg_red {n i : Nat} {keep : Bool} {e : E} (q : tS G n (.asg i keep e) D σ H) : tAsg (tE G e) (gName i) D σ H := by
  obtain ⟨ρ, c, p⟩ := q
  unfold evalS at p
  refine ⟨ρ, [], [], c, (p.out σ).mono fun t ρ1 p1 v H1 c1 => ?_⟩
  show D.nx (σ.set i (some v)) H1
  have tk : OutR G D ((take t ρ1).out fun d ρ' => match ρ'[i]? with | some _ => .next (ρ'.set i (.sh d)) | none => .bad) → D.nx (σ.set i (some v)) H1 := fun p2 => by
    obtain ⟨d, ρ', h1, h2, p3⟩ := out_take p2
    obtain ⟨S, as, bs, c1⟩ := c1
    obtain ⟨S', as', bs', e, c2⟩ := c1.esc h1 h2
    have c3 : Conf G.K G.F (ρ'.set i (.sh d)) [] (σ.set i (some v)) [] H1 := Conf.set ⟨S', as', bs', c2⟩ nobr_nil
    split at p3
    · exact p3 _ _ c3
    · exact p3.elim
  unfold asgS at p1
  split at p1
  · exact p1.elim
  · exact p1.elim
  · rename_i s hs _
    split at p1
    · obtain ⟨S, as, bs, c1⟩ := c1
      obtain ⟨as', bs', c2⟩ := c1.setOw (i := i) nobr_nil (by
        by_cases hi : i < ρ1.length
        · exact hi
        · rw [List.getElem?_eq_none_iff.mpr (by omega)] at *; simp_all)
      exact p1 _ _ ⟨S, as', bs', c2⟩
    · exact tk p1
theorem asgT_red {n : Nat} {tg : Tg} {e : E} (q : tS G n (.asgT tg e) D σ H) : tAsg (tE G e) (gOf G tg) D σ H := by
  obtain ⟨ρ, c, p⟩ := q
  unfold evalS at p
  refine ⟨ρ, [], [], c, (p.out σ).mono fun t ρ1 p1 v H1 c1 => ?_⟩
  obtain ⟨d, ρ', h1, h2, p3⟩ := out_take p1
  obtain ⟨ρ2, e2, p4⟩ := nextO_post p3
  obtain ⟨S, as, bs, c1⟩ := c1
  obtain ⟨S', as', bs', e, c2⟩ := c1.esc h1 h2
  exact ⟨ρ', [], [], d, ρ2, nobr_nil, ⟨S', as', bs', c2⟩, e2, fun σ' c' _ _ => p4 _ _ c'⟩
theorem asgNm {i : Nat} {d : Ev.D} {ρ ρ' : Rho} (h : asgTg (.nm i) d ρ = some ρ') : ρ' = ρ.set i (.sh d) := by
  unfold asgTg at h
  split at h
  · cases h
  · cases h; rfl
  · cases h
theorem par_red2 {n i j : Nat} {es : Es} (q : tS G n (.par [i, j] es) D σ H) : tPar i j (tEs G es) D σ H := by
  obtain ⟨ρ, c, p⟩ := q
  unfold evalS at p
  refine ⟨ρ, [], [], c, (p.out σ).mono fun us ρ1 p1 ws H1 c1 hl => ?_⟩
  cases e : takeAll us ρ1 with
  | exc x ρ' => exact absurd e takeAll_noexc
  | bad => rw [e] at p1; exact p1.elim
  | ok ds ρ2 =>
    rw [e] at p1
    obtain ⟨ρ3, e3, p3⟩ := nextO_post (show OutR G D (nextO (parS [i, j] ds ρ2)) from p1)
    obtain ⟨S, as, bs, c2, r⟩ := takeAll_conf us ws hl.symm c1 e
    match ds, e3 with
    | [d1, d2], e3 =>
      cases r with
      | cons r1 r =>
        cases r with
        | cons r2 r =>
          cases r
          obtain ⟨ρ4, k1, k2⟩ := Option.bind_eq_some_iff.mp (show (asgTg (.nm i) d1 ρ2).bind (fun ρ' => parS [j] [d2] ρ') = some ρ3 from e3)
          obtain ⟨ρ5, k3, k4⟩ := Option.bind_eq_some_iff.mp (show (asgTg (.nm j) d2 ρ4).bind (fun ρ' => parS [] [] ρ') = some ρ3 from k2)
          cases k4
          cases asgNm k1
          cases asgNm k3
          refine ⟨_, _, rfl, p3 _ _ ?_⟩
          have c3 : Conf G.K G.F (ρ2.set i (.sh d1)) [.sh d2] (σ.set i (some _)) [_] H1 := Conf.set ⟨S, as, bs, (c2.push r2).push r1⟩ (fun t ht i e => by simp at ht; rw [ht] at e; cases e)
          exact c3.set nobr_nil
    | [], e3 => cases e3
    | [_], e3 => obtain ⟨_, _, k⟩ := Option.bind_eq_some_iff.mp (show (asgTg (.nm i) _ ρ2).bind (fun ρ' => parS [j] [] ρ') = some ρ3 from e3); cases k
    | _ :: _ :: _ :: _, e3 =>
      obtain ⟨_, _, k⟩ := Option.bind_eq_some_iff.mp (show (asgTg (.nm i) _ ρ2).bind (fun ρ' => parS [j] _ ρ') = some ρ3 from e3)
      obtain ⟨_, _, k⟩ := Option.bind_eq_some_iff.mp (show (asgTg (.nm j) _ _).bind (fun ρ' => parS [] _ ρ') = some ρ3 from k)
      cases k
end

section
variable {G : Gx} {D : Ends} {σ : St} {H : Hp} {α : Type}
/-- an item of an owned list changes -/
theorem chg_post {f : List Ev.D → Option (List Ev.D)} {i : Nat} {ρ : Rho} (p : OutR G D (nextO (chgI f i ρ))) : ∃ ds ds' ρ', ownL ρ i = some ds ∧ f ds = some ds' ∧ chgI (fun _ => some ds') i ρ = some ρ' ∧ ∀ σ H, Conf G.K G.F ρ' [] σ [] H → D.nx σ H := by
  obtain ⟨ρ', h, q⟩ := nextO_post p
  obtain ⟨ds, ds', h1, h2, h3⟩ := chgI_own h
  exact ⟨ds, ds', ρ', h1, h2, h3, q⟩
theorem own_slot {ρ : Rho} {ts : List Tm} {vs : List V} {i : Nat} (c : Conf G.K G.F ρ ts σ vs H) (h : (ownL ρ i).isSome = true) : ∃ a, σ[i]? = some (some (V.ref a)) := by
  obtain ⟨a, h1, _⟩ := ownL_ty c h G.K
  exact ⟨a, h1⟩
end

section
variable {X : Cx} {N : List Str} {sc : Scope} {cf : Str → Bool} {G : Gx} {pos p tp : Pos} {a b v : Expr} {ea eb : E} {i n : Nat} {x : Str}
theorem set_rule (hp : plainIx a = true) (w : Value) : assign (.Subscript b a tp) X.env w = (do
      let ov ← holding [w] (eval b X.env)
      let iv ← holding [w, ov] (eval a X.env)
      standAt tp
      holding [w, ov, iv] (setItem ov iv w)
      release [w, ov, iv] []) := by
  cases a with
  | Slice l u st q => cases st with
    | none => cases hp
    | some st => rfl
  | _ => rfl
theorem s_setI (f : FitS X N sc cf G) (h : nameOk N sc i x = true) (hk : PE X a (tE G ea)) (hv : PE X v (tE G eb)) (hp : plainIx a = true) (hc : notComp v = true) :
    PS X (.Assign [.Subscript (.Name x p) a tp] v pos) (tS G n (.setI i ea eb)) := by
  obtain ⟨h1, h2, h3, h4⟩ := nameOk_iff h
  refine PS.imp (ps_asg hv (pg_sub (pe_var (i := i) (by rw [f.fit.hN]; exact h1) (by rw [f.fit.sc]; exact h2) h3 h4) hk set_list (set_rule hp)) (show swapsWithSole [.Subscript (.Name x p) a tp] v pos.line X.env = pure false from notComp_ok hc (some (.Subscript (.Name x p) a tp)) pos.line X.env) (by cases v <;> rfl) rfl) fun D σ H ⟨ρ, c, q⟩ => ?_
  unfold evalS at q
  refine ⟨ρ, [], [], c, (q.out σ).mono fun t ρ1 p1 w H1 c1 => ?_⟩
  obtain ⟨d, ρ2, g1, g2, p2⟩ := out_take p1
  obtain ⟨S, as, bs, c1⟩ := c1
  obtain ⟨S', as', bs', e, c2⟩ := c1.esc g1 g2
  split at p2
  · rename_i ho
    obtain ⟨A, e1⟩ := own_slot ⟨S', as', bs', c2⟩ ho
    refine ⟨_, e1, ρ2, [.sh d], [w], ⟨S', as', bs', c2⟩, (p2.out σ).weak.mono fun u ρ3 p3 z H3 ⟨S3, as3, bs3, c3⟩ => ?_⟩
    split at p3
    · rename_i kd hkd
      obtain ⟨ds, ds', ρ', k1, k2, k3, k4⟩ := chg_post p3
      unfold setAt at k2
      split at k2
      · rename_i j
        obtain ⟨m, hm, rfl⟩ := Option.map_eq_some_iff.mp k2
        cases Rp.int_of (c3.top hkd)
        obtain ⟨cs, c4⟩ := c3.drop
        have r : Rp G.K S3 w d := by
          cases c4.tms with
          | cons h _ => cases h with
            | sh h => exact h
        obtain ⟨cs5, c5⟩ := c4.drop
        obtain ⟨A', xs, z1, z2, z3, z4⟩ := c5.ownL k1
        rw [e1] at z1
        cases z1
        obtain ⟨ρ6, y1, y2⟩ := z4 (Rps.set r m z3)
        rw [k3] at y1
        cases y1
        exact ⟨A, xs, j, m, rfl, rfl, z2, by rw [z3.length]; exact hm, k4 _ _ ⟨S3, as3, cs5, y2⟩⟩
      · cases k2
    · exact p3.elim
  · exact p2.elim
/-- what must be known of an exception's class -/
def RaiN (K : PySem.W.Frag) (mg : Str → Option Value) (c : Str) : Prop := ∃ C, mg c = some (.ref C) ∧ PySem.W.excIn K C [.type "ValueError", .type "Exception", .type "BaseException", .type "object"] "ValueError.__new__" = true ∧ PySem.W.keepIn K (.ref C) = true ∧
  PySem.W.subIn K (.ref C) (.type "BaseException") = some true ∧ PySem.W.typeIn K (.ref C) = some (.type "type")
theorem s_rais (f : FitS X N sc cf G) (h0 : X.calm = true) {c m : Str} {j : Nat} {p1 p2 p3 : Pos} (hg : glOk sc c = true) (r : RaiN X.K X.mg c) : PS X (.Raise (some (.Call (.Name c p1) [.Constant (.str m) j p2] [] p3)) none pos) (tS G n (.rais c m)) := by
  obtain ⟨h1, h2, _⟩ := glOk_iff hg
  obtain ⟨C, k1, k2, k3, k4, k5⟩ := r
  refine PS.imp (ps_raise h0 f.fit.tk (pmk_own PySem.F.excBase_ValueError k2 k1 k3 (raises_own k4 k5) (f.fit.gl h1) h2)) fun D σ H ⟨ρ, c0, q⟩ => ?_
  obtain ⟨S, as, bs, c0⟩ := c0
  exact q _ _ _ _ ⟨S, as, bs, c0, by rw [f.fit.mg]; exact k1, .inl ⟨rfl, rfl⟩⟩
theorem s_raip (f : FitS X N sc cf G) (h0 : X.calm = true) {c m fl : Str} {p1 p3 : Pos} (hg : glOk sc c = true) (r : RaiI X.md c fl) (ha : PE X a (tE G ea)) (hs : starEach [a] X.env = (false, eval a X.env) :: starEach [] X.env) :
    PS X (.Raise (some (.Call (.Name c p1) [a] [] p3)) none pos) (tS G n (.raip c fl m ea)) := by
  obtain ⟨h1, h2, _⟩ := glOk_iff hg
  obtain ⟨C, fI, k, fd, ps, k1, k2, k3, k4, k5, k6, k7⟩ := r
  refine PS.imp (ps_raise h0 f.fit.tk (pmk_oex (X := X) k2 k3 k4 k5 k6 k7 .nil (passes_call f.fit.tk fun _ _ _ _ z => z.elim) (f.fit.gl h1) k1 (pa_cons ha pa_nil hs) h2 hs rfl)) fun D σ H ⟨ρ, c0, q⟩ => ?_
  unfold evalS at q
  refine ⟨ρ, [], [], c0, (q.out σ).mono fun t ρ1 p1 x H1 c1 => ⟨Nat.le_of_ble_eq_true rfl, fun a ha => ⟨a, x, rfl, upd_same, fun dx hdx hne => ?_⟩⟩⟩
  obtain ⟨d, ρ2, g1, g2, p2⟩ := out_take p1
  obtain ⟨S, as, bs, c1⟩ := c1
  obtain ⟨S', as', bs', e, c2⟩ := c1.esc g1 g2
  have rd : Rp G.K S' x d := by
    cases c2.tms with
    | cons h _ => cases h with
      | sh h => exact h
  obtain ⟨cs, c3⟩ := c2.drop
  have hd1 : H1 dx = none := by rw [upd_ne hne] at hdx; exact hdx
  refine ⟨rfl, dx, [(fl, x)], upd_same, by rw [upd_ne hne, upd_same], hd1, ?_⟩
  rw [made_eq ha]
  have c4 := c3.see (o := .xd [(fl, x)]) hd1
  have e1 : Ext S' (upd S' dx (.xd [(fl, x)])) := ext_upd (none_of_ext c3.sub hd1)
  exact p2 _ _ _ _ ⟨_, _, _, c4, by rw [f.fit.mg]; exact k1, .inr ⟨dx, _, rfl, upd_same, .cons (rd.ext e1) .nil⟩⟩
theorem s_dput (f : FitS X N sc cf G) (h : nameOk N sc i x = true) (hk : PE X a (tE G ea)) (hv : PE X v (tE G eb)) (hp : plainIx a = true) (hc : notComp v = true) :
    PS X (.Assign [.Subscript (.Name x p) a tp] v pos) (tS G n (.dput i ea eb)) := by
  obtain ⟨h1, h2, h3, h4⟩ := nameOk_iff h
  refine PS.imp (ps_asg hv (pg_sub (pe_var (i := i) (by rw [f.fit.hN]; exact h1) (by rw [f.fit.sc]; exact h2) h3 h4) hk (set_dN f.fit.un) (set_rule hp)) (show swapsWithSole [.Subscript (.Name x p) a tp] v pos.line X.env = pure false from notComp_ok hc (some (.Subscript (.Name x p) a tp)) pos.line X.env) (by cases v <;> rfl) rfl) fun D σ H ⟨ρ, c, q⟩ => ?_
  unfold evalS at q
  refine ⟨ρ, [], [], c, (q.out σ).mono fun t ρ1 p1 w H1 c1 => ?_⟩
  obtain ⟨d, ρ2, g1, g2, p2⟩ := out_take p1
  obtain ⟨S, as, bs, c1⟩ := c1
  obtain ⟨S', as', bs', e, c2⟩ := c1.esc g1 g2
  split at p2
  · rename_i kvs hd
    obtain ⟨A, ob, es, hσ, hA, r, _⟩ := c2.ownDct hd
    refine ⟨_, hσ, ρ2, [.sh d], [w], ⟨S', as', bs', c2⟩, (p2.out σ).weak.mono fun u ρ3 p3 z H3 ⟨S3, as3, bs3, c3⟩ => ?_⟩
    obtain ⟨kd, ρ4, g3, g4, p4⟩ := out_take p3
    obtain ⟨ρ5, e5, k5⟩ := nextO_post p4
    obtain ⟨S4, as4, bs4, e4, c4⟩ := c3.esc g3 g4
    have rk : Rp G.K S4 z kd := by
      cases c4.tms with
      | cons h _ => cases h with
        | sh h => exact h
    obtain ⟨cs5, c5⟩ := c4.drop
    have rv : Rp G.K S4 w d := by
      cases c5.tms with
      | cons h _ => cases h with
        | sh h => exact h
    obtain ⟨cs6, c6⟩ := c5.drop
    obtain ⟨kvs', ky, hd', hky, hsm, hp2⟩ := dputI_of e5
    obtain ⟨A', ob', es', hσ', hA', r', put⟩ := c6.ownDct hd'
    rw [hσ] at hσ'
    cases hσ'
    rw [f.fit.K] at hA'
    refine ⟨A, ob', es', kvs', S4, kd, ky, rfl, c6.sub, hA', by rw [f.fit.K] at r'; exact r', by rw [f.fit.K] at rk; exact rk, hky, by rw [r'.length]; exact sm_of hsm, fun o' b eb => ?_⟩
    subst eb
    obtain ⟨ρ7, y1, y2⟩ := put (o' := o') (r'.put rk hky rv)
    rw [hp2] at y1
    cases y1
    have hw : dN G.K.w A o' (putE es' ky b w) = dN X.w A o' (putE es' ky b w) := by rw [f.fit.K]
    rw [hw] at y2
    exact k5 _ _ ⟨S4, as4, cs6, y2⟩
  · exact p2.elim
def rGetL : V → V → Hp → VK → Prop := fun o i H Q => ∃ (p : Addr) (xs : List V) (k : Int) (y : V), o = .ref p ∧ i = .int k ∧ H p = some (.lst xs) ∧ 0 ≤ k ∧ xs[k.toNat]? = some y ∧ Q y H
theorem get_list : PGet X rGetL := by
  intro pins s σ H o i ov iv Q I ro ri ⟨p, xs, k, y, e1, e2, hp, h0, hy, q⟩
  subst e1 e2
  cases ro
  obtain ⟨t, rfl⟩ := ri
  obtain ⟨its, r, pl, hz⟩ := I.list (.inl (.inl hp))
  obtain ⟨u, hu, ru⟩ := r.get hy
  have hl := r.length
  have hn := line63
  have hlt := (List.getElem?_eq_some_iff.mp hy).1
  exact wpAny_getItem_list pl.isList h0 (by omega) (by simpa using hu) ⟨y, H, I, ru, q⟩
def bopIn : BOp → Operator → Bool
  | .add, .Add => true
  | .sub, .Sub => true
  | _, _ => false
def ipD (o : BOp) : TIp := fun x y H Q => ∃ (i j k : Int), x = .int i ∧ y = .int j ∧ augD o i j = some k ∧ Q (.int k) H
theorem ip_dat {o : BOp} {op : Operator} (h : bopIn o op = true) : PIp X op (ipD o) := by
  intro pins s σ H x y v u Q I r1 r2 ⟨i, j, k, e1, e2, e3, q⟩
  cases o <;> cases op <;> first
    | (cases h; done)
    | (cases e3; first
        | exact ip_add pins s σ H x y v u Q I r1 r2 ⟨i, j, e1, e2, q⟩
        | exact ip_sub pins s σ H x y v u Q I r1 r2 ⟨i, j, e1, e2, q⟩)
theorem s_aug (f : FitS X N sc cf G) {o : BOp} {op : Operator} (h : locOk N sc cf i x = true) (ho : bopIn o op = true) (hv : PE X v (tE G ea)) : PS X (.AugAssign (.Name x p) op v pos) (tS G n (.aug i o ea)) := by
  obtain ⟨h1, h2, h3⟩ := locOk_iff h
  refine PS.imp (ps_aug (i := i) f.fit.nd (by rw [f.fit.hN]; exact h1) (by rw [f.fit.sc]; exact h2) hv (ip_dat ho) (h3.imp (f.cc.fn x) fun q => by rw [f.fit.sc]; exact q)) fun D σ H ⟨ρ, c, q⟩ => ?_
  unfold evalS at q
  split at q
  · rename_i a e
    obtain ⟨S, as, bs, c'⟩ := c
    obtain ⟨o', ys, k1, k2, k3⟩ := c'.slots.mem e
    cases k2 with
    | sh r =>
      cases Rp.int_of r
      refine ⟨_, k1, ρ, [], [], ⟨S, as, bs, c'⟩, (q.out σ).mono fun t ρ1 p1 w H1 ⟨S1, as1, bs1, c1⟩ => ?_⟩
      split at p1
      · rename_i b hb
        cases Rp.int_of (c1.top hb)
        split at p1
        · rename_i k hk
          obtain ⟨ρ', g1, g2⟩ := nextO_post p1
          cases asgNm g1
          obtain ⟨cs, c2⟩ := c1.drop
          exact ⟨a, b, k, rfl, rfl, hk, g2 _ _ (Conf.set ⟨S1, as1, cs, c2.push (.int k)⟩ nobr_nil)⟩
        · exact p1.elim
      · exact p1.elim
  · exact q.elim
theorem s_augI (f : FitS X N sc cf G) {o : BOp} {op : Operator} (h : nameOk N sc i x = true) (ho : bopIn o op = true) (hp : plainIx a = true) (hk : PE X a (tE G ea)) (hv : PE X v (tE G eb)) :
    PS X (.AugAssign (.Subscript (.Name x p) a tp) op v pos) (tS G n (.augI i ea o eb)) := by
  obtain ⟨h1, h2, h3, h4⟩ := nameOk_iff h
  refine PS.imp (ps_augS (pe_var (i := i) (by rw [f.fit.hN]; exact h1) (by rw [f.fit.sc]; exact h2) h3 h4) hk get_list hv (ip_dat ho) set_list (fun ov iv new => ?_)) fun D σ H ⟨ρ, c, q⟩ => ?_
  · cases a with
    | Slice l u st q => cases st with
      | none => cases hp
      | some st => rfl
    | _ => rfl
  · unfold evalS at q
    split at q
    · rename_i hown
      obtain ⟨A, e1⟩ := own_slot c hown
      refine ⟨_, e1, ρ, [], [], c, (q.out σ).mono fun u ρ1 p1 w H1 ⟨S, as, bs, c1⟩ => ?_⟩
      split at p1
      · rename_i j ds hj hds
        split at p1
        · rename_i h0
          split at p1
          · rename_i a ha
            cases Rp.int_of (c1.top hj)
            obtain ⟨cs, c2⟩ := c1.drop
            obtain ⟨A', xs, z1, z2, z3, _⟩ := c2.ownL hds
            rw [e1] at z1
            cases z1
            obtain ⟨y, hy, ry⟩ := z3.get ha
            cases Rp.int_of ry
            refine ⟨A, xs, j, _, rfl, rfl, z2, h0, hy, ρ1, [], [], ⟨S, as, cs, c2⟩, (p1.out σ).mono fun t ρ2 p2 w2 H2 ⟨S2, as2, bs2, c3⟩ => ?_⟩
            split at p2
            · rename_i b hb
              cases Rp.int_of (c3.top hb)
              split at p2
              · rename_i k hk
                obtain ⟨ds2, ds', ρ', k1, k2, k3, k4⟩ := chg_post p2
                obtain ⟨m, hm, rfl⟩ := Option.map_eq_some_iff.mp (show (ixN ds2.length j).map (fun n => ds2.set n (.int k)) = some ds' from k2)
                obtain ⟨cs4, c4⟩ := c3.drop
                obtain ⟨A', xs2, z1, z2, z3, z4⟩ := c4.ownL k1
                rw [e1] at z1
                cases z1
                obtain ⟨ρ6, y1, y2⟩ := z4 (Rps.set (.int k) m z3)
                rw [k3] at y1
                cases y1
                exact ⟨a, b, k, rfl, rfl, hk, A, xs2, j, m, rfl, rfl, z2, by rw [z3.length]; exact hm, k4 _ _ ⟨S2, as2, cs4, y2⟩⟩
              · exact p2.elim
            · exact p2.elim
          · exact p1.elim
        · exact p1.elim
      · exact p1.elim
    · exact q.elim
theorem s_expr {e : E} (hv : PE X v (tE G e)) (hc : notComp v = true) : PS X (.Expr v pos) (tS G n (.expr e)) := by
  refine PS.imp (ps_expr hv (notComp_ok hc _ _ _)) fun D σ H ⟨ρ, c, q⟩ => ?_
  unfold evalS at q
  exact ⟨ρ, [], [], c, (q.out σ).mono fun t ρ1 p1 w H1 c1 => p1 _ _ c1.drop⟩
theorem s_ifs {c : Expr} {sa sb : List Stmt} {et : T} {ssa ssb : Ss} (ht : PT X c (tT G et)) (ha : PSs X sa (tSs G n ssa)) (hb : PSs X sb (tSs G n ssb)) : PS X (.If c sa sb pos) (tS G n (.ifs et ssa ssb)) := by
  refine PS.imp (ps_if ht ha hb) fun D σ H ⟨ρ, c, q⟩ => ?_
  unfold evalS at q
  refine ⟨ρ, [], [], c, (q.out σ).mono fun k ρ1 p1 H1 c1 => ?_⟩
  cases k with
  | true => exact ⟨ρ1, c1, p1⟩
  | false => exact ⟨ρ1, c1, p1⟩
theorem s_ret {e : E} (hv : PE X v (tE G e)) : PS X (.Return (some v) pos) (tS G n (.ret e)) := by
  refine PS.imp (ps_ret hv) fun D σ H ⟨ρ, c, q⟩ => ?_
  unfold evalS at q
  exact ⟨ρ, [], [], c, (q.out σ).mono fun t ρ1 p1 w H1 c1 => p1 _ _ _ c1⟩
theorem s_retN : PS X (.Return none pos) (tS G n .retN) := by
  refine PS.imp ps_retN fun D σ H ⟨ρ, c, q⟩ => ?_
  unfold evalS at q
  obtain ⟨S, as, bs, c⟩ := c
  exact q _ _ _ ⟨S, as, bs, c.push .non⟩
theorem s_brk : PS X (.Break pos) (tS G n .brk) := PS.imp ps_break fun D σ H ⟨ρ, c, q⟩ => by unfold evalS at q; exact q _ _ c
theorem s_cnt : PS X (.Continue pos) (tS G n .cnt) := PS.imp ps_continue fun D σ H ⟨ρ, c, q⟩ => by unfold evalS at q; exact q _ _ c
theorem s_pass : PS X (.Pass pos) (tS G n .pass) := PS.imp ps_pass fun D σ H ⟨ρ, c, q⟩ => by unfold evalS at q; exact q _ _ c
theorem s_doc {y : Str} {j : Nat} {p2 : Pos} : PS X (.Expr (.Constant (.str y) j p2) pos) (tS G n .pass) := PS.imp ps_doc fun D σ H ⟨ρ, c, q⟩ => by unfold evalS at q; exact q _ _ c
theorem s_never {st : Stmt} : PS X st (tS G n .bad) := PS.imp ps_never fun D σ H ⟨ρ, c, q⟩ => by unfold evalS at q; exact q
theorem s_nil : PSs X [] (tSs G n .nil) := PSs.imp pss_nil fun D σ H ⟨ρ, c, q⟩ => by unfold evalSs at q; exact q _ _ c
theorem s_cons {st : Stmt} {rest : List Stmt} {s : S} {ss : Ss} (h1 : PS X st (tS G n s)) (h2 : PSs X rest (tSs G n ss)) : PSs X (st :: rest) (tSs G n (.cons s ss)) := by
  refine PSs.imp (pss_cons h1 h2) fun D σ H ⟨ρ, c, q⟩ => ⟨ρ, c, ?_⟩
  unfold evalSs at q
  cases e : evalS n s ρ with
  | next ρ' => rw [e] at q; exact fun σ H c => ⟨ρ', c, q⟩
  | brk ρ' => rw [e] at q; exact q
  | cnt ρ' => rw [e] at q; exact q
  | ret t ρ' => rw [e] at q; exact q
  | exc x ρ' => rw [e] at q; exact q
  | bad => rw [e] at q; exact q
/-! loops -/
theorem s_fgt {sts : List Stmt} {ss : Ss} {fg : List Nat} (h : PSs X sts (tSs G n ss)) : PSs X sts (tSs G n (.fgt fg ss)) := PSs.imp h fun D σ H ⟨ρ, c, q⟩ => by
  unfold evalSs at q
  exact ⟨clr ρ fg, c.fgt fg, q⟩
theorem s_for (f : FitS X N sc cf G) (h0 : X.calm = true) {tg : Tg} {it : I} {tge iter : Expr} {body : List Stmt} {ss : Ss} {fg : List Nat} (hi : PI X tge iter (tI G it)) (hg : PG X tge (gOg G tg)) (hb : PSs X body (tSf G n ss)) (hs : notSet iter = true) :
    PS X (.For tge iter body [] pos) (tS G n (.for_ fg tg it ss)) := by
  refine PS.imp (ps_for f.po h0 hi hg hb (notSet_ok hs _)) fun D σ H ⟨ρ, c, q⟩ => ?_
  unfold evalS at q
  refine ⟨ρ, [], [], c, (q.out σ).mono fun ds ρ1 p1 J H1 S1 as1 bs1 c1 wk => ?_⟩
  refine ⟨fun i m σ H => ∃ ρ, Conf G.K (G.F.from_ S1) ρ [] σ [] H ∧ i ≤ ds.length ∧ m = ds.length - i ∧ OutR G D (forL (evalSs n ss) tg fg (ds.drop i) ρ), ⟨ds.length, ρ1, ⟨S1, as1, bs1, c1.start⟩, Nat.zero_le _, rfl, p1⟩, ?_⟩
  rintro i m σ2 H2 ⟨ρ2', c2', hi, rfl, p2⟩
  obtain ⟨S2, as2, bs2, c2⟩ := c2'.fgt fg
  have eS : Ext S1 S2 := c2.s0
  by_cases hlt : i < ds.length
  · have hd : ds[i]? = some ds[i] := List.getElem?_eq_getElem hlt
    obtain ⟨go, yl⟩ := wk.step i H2 _ (eS.trans c2.sub) hd
    refine .inr ⟨go, _, fun σ' H' w => ⟨ds.length - (i + 1), by omega, w⟩, fun x H' y => ?_⟩
    obtain ⟨S3, e3, c3⟩ := c2.yld eS (yl x H' y)
    rw [drop_lt hd] at p2
    unfold forL at p2
    split at p2
    · exact p2.elim
    · rename_i ρ3 ea
      refine ⟨G.F.from_ S1, clr ρ2' fg, [], [], _, ρ3, nobr_nil, ⟨S3, as2, bs2, c3⟩, ea, fun σ4 c4 _ _ => ⟨G.F.from_ S1, ρ3, c4, ?_⟩⟩
      split at p2
      · rename_i ρ4 e4
        rw [e4]
        exact fun σ H c => ⟨ρ4, c, hlt, rfl, p2⟩
      · rename_i ρ4 e4
        rw [e4]
        exact fun σ H c => ⟨ρ4, c, hlt, rfl, p2⟩
      · rename_i ρ4 e4
        rw [e4]
        exact fun σ H c => p2 σ H (Conf.fgt (Conf.back c1 c) fg)
      · rename_i o hn1 hn2 hn3
        cases e : evalSs n ss ρ3 with
        | next ρ' => exact absurd e (hn1 ρ')
        | cnt ρ' => exact absurd e (hn2 ρ')
        | brk ρ' => exact absurd e (hn3 ρ')
        | ret t ρ' => rw [e] at p2; exact fun v σ H c => p2 v σ H (Conf.back c1 c)
        | exc x ρ' =>
          rw [e] at p2
          rintro cls dd σ H ⟨S, as, bs, c, er⟩
          exact p2 cls dd σ H ⟨S, as, bs, Cf.back c1 c, er⟩
        | bad => rw [e] at p2; exact p2
  · have hi' : i = ds.length := by omega
    subst hi'
    rw [List.drop_length] at p2
    unfold forL at p2
    exact .inl ⟨wk.stop _ H2 (eS.trans c2.sub) (Nat.le_refl _), p2 _ _ (Conf.back c1 ⟨S2, as2, bs2, c2⟩)⟩
theorem s_whl (f : FitS X N sc cf G) {c : Expr} {body : List Stmt} {et : T} {ss : Ss} {fg : List Nat} (hc : PT X c (tT G et)) (hb : PSs X body (tSs G n ss)) : PS X (.While c body [] pos) (tS G n (.whl fg et ss)) := by
  refine PS.imp (ps_while f.po hc hb) fun D σ H ⟨ρ, c, q⟩ => ?_
  unfold evalS at q
  refine ⟨fun m σ H => ∃ ρ, Conf G.K G.F ρ [] σ [] H ∧ OutR G D (whlL (evalT et) (evalSs n ss) fg m ρ), ⟨n, ρ, c, q⟩, ?_⟩
  rintro m σ1 H1 ⟨ρ1, c1, p1⟩
  cases m with
  | zero => exact p1.elim
  | succ m =>
    unfold whlL at p1
    refine ⟨clr ρ1 fg, [], [], c1.fgt fg, (p1.out σ1).mono fun k ρ2 p2 H2 c2 => ?_⟩
    cases k with
    | false => exact p2 _ _ c2
    | true =>
      refine ⟨_, fun σ' H' w => ⟨m, Nat.lt_succ_self _, w⟩, ρ2, c2, ?_⟩
      have p3 : OutR G D (match evalSs n ss ρ2 with
        | .next ρ2 => whlL (evalT et) (evalSs n ss) fg m ρ2
        | .cnt ρ2 => whlL (evalT et) (evalSs n ss) fg m ρ2
        | .brk ρ2 => .next (clr ρ2 fg)
        | o => o) := p2
      cases e : evalSs n ss ρ2 with
      | next ρ' => rw [e] at p3; exact fun σ H c => ⟨ρ', c, p3⟩
      | cnt ρ' => rw [e] at p3; exact fun σ H c => ⟨ρ', c, p3⟩
      | brk ρ' => rw [e] at p3; exact fun σ H c => p3 σ H (c.fgt fg)
      | ret t ρ' => rw [e] at p3; exact p3
      | exc x ρ' => rw [e] at p3; exact p3
      | bad => rw [e] at p3; exact p3
/-! try -/
theorem SlRs.xaTo {K : Fw} {F F' : Frm} {H S : Hp} (h1 : F'.Hin = F.Hin) (h2 : F'.io = F.io) (h3 : F.xa = none) : ∀ {ρ : Rho} {σ : St} {as : List Addr}, SlRs K F H S ρ σ as → SlRs K F' H S ρ σ as
  | _, _, _, .nil => .nil
  | _, _, _, .cons h r => by
    refine .cons ?_ (SlRs.xaTo h1 h2 h3 r)
    cases h with
    | un => exact .un _
    | sh r => exact .sh r
    | ow r n => exact .ow r (by rw [h1]; exact n)
    | io r n => exact .io r (by rw [h2]; exact n)
    | ex k1 k2 k3 => rw [h3] at k1; cases k1
theorem SlRs.xaFrom {K : Fw} {F F' : Frm} {H S : Hp} (h1 : F'.Hin = F.Hin) (h2 : F'.io = F.io) : ∀ {ρ : Rho} {σ : St} {as : List Addr}, noEx ρ = true → SlRs K F H S ρ σ as → SlRs K F' H S ρ σ as
  | _, _, _, _, .nil => .nil
  | _, _, _, e, .cons h r => by
    unfold noEx at e
    rw [List.all_cons, Bool.and_eq_true] at e
    refine .cons ?_ (SlRs.xaFrom h1 h2 e.2 r)
    cases h with
    | un => exact .un _
    | sh r => exact .sh r
    | ow r n => exact .ow r (by rw [h1]; exact n)
    | io r n => exact .io r (by rw [h2]; exact n)
    | ex k1 k2 k3 => exact absurd e.1 (by simp [Sl.notEx])
/-- the exception is held by a slot -/
theorem Cf.hold {K : Fw} {F : Frm} {S H : Hp} {ρ : Rho} {σ : St} {as : List Addr} (c : Cf K F S ρ [] σ [] H as []) (h : F.xa = none) {x : Ex} {a : Addr} {cls : Value} {dd : Option Addr} (e : ExD K S x dd) (nm : Option Nat) :
    Conf K { F with xa := some ⟨a, x.cls, cls, dd⟩ } (setX nm (.ex x) ρ) [] (inSt nm a σ) [] H := by
  have sl : SlRs K { F with xa := some ⟨a, x.cls, cls, dd⟩ } H S ρ σ as := c.slots.xaTo (F := F) (F' := { F with xa := some ⟨a, x.cls, cls, dd⟩ }) rfl rfl h
  have c1 : Cf K { F with xa := some ⟨a, x.cls, cls, dd⟩ } S ρ [] σ [] H as [] := ⟨c.sub, c.s0, c.new, c.keep, c.iod, sl, .nil, c.nd, c.out⟩
  cases nm with
  | none => exact ⟨S, as, [], c1⟩
  | some i =>
    obtain ⟨as', g1, g2⟩ := c1.slots.repl (ρ' := ρ.set i (.ex x)) (σ' := σ.set i (some (.ref a))) (by simp) (by simp) fun j s s' o o' k1 k2 k3 k4 => by
      by_cases e' : i = j
      · subst e'
        rw [List.getElem?_set_self (List.getElem?_eq_some_iff.mp k1).1] at k3
        rw [List.getElem?_set_self (List.getElem?_eq_some_iff.mp k2).1] at k4
        cases k3
        cases k4
        exact .inr (.ex (c := ⟨a, x.cls, cls, dd⟩) rfl rfl e)
      · rw [List.getElem?_set_ne e', k1] at k3
        rw [List.getElem?_set_ne e', k2] at k4
        cases k3
        cases k4
        exact .inl ⟨rfl, rfl⟩
    exact ⟨S, as', [], c1.slots' g1 .nil (List.Sublist.append g2 (List.Sublist.refl _))⟩
def outSt (nm : Option Nat) (st : St) : St := match nm with
  | none => st
  | some i => st.set i none
/-- .. and let go -/
theorem Conf.letGo {K : Fw} {F : Frm} {H : Hp} {ρ : Rho} {σ : St} {xa : Option Xa} (c : Conf K { F with xa := xa } ρ [] σ [] H) (nm : Option Nat) (h : noEx (setX nm .un ρ) = true) : Conf K F (setX nm .un ρ) [] (outSt nm σ) [] H := by
  obtain ⟨S, as, bs, c⟩ := c
  have fin : ∀ {ρ' : Rho} {σ' : St} {as' : List Addr}, SlRs K { F with xa := xa } H S ρ' σ' as' → as'.Sublist as → noEx ρ' = true → Conf K F ρ' [] σ' [] H := fun {ρ' σ' as'} g s e => by
    cases c.tms
    have sb : (as' ++ []).Sublist (as ++ []) := List.Sublist.append s (List.Sublist.refl _)
    exact ⟨S, as', [], c.sub, c.s0, c.new, c.keep, c.iod, g.xaFrom (F := { F with xa := xa }) (F' := F) rfl rfl e, .nil, c.nd.sublist sb, fun a ha => c.out a (sb.subset ha)⟩
  cases nm with
  | none => exact fin c.slots (List.Sublist.refl _) h
  | some i =>
    obtain ⟨as', g1, g2⟩ := c.slots.repl (ρ' := ρ.set i .un) (σ' := σ.set i none) (by simp) (by simp) fun j s s' o o' k1 k2 k3 k4 => by
      by_cases e' : i = j
      · subst e'
        rw [List.getElem?_set_self (List.getElem?_eq_some_iff.mp k1).1] at k3
        cases k3
        exact .inr (.un _)
      · rw [List.getElem?_set_ne e', k1] at k3
        rw [List.getElem?_set_ne e', k2] at k4
        cases k3
        cases k4
        exact .inl ⟨rfl, rfl⟩
    exact fin g1 g2 h
theorem Cf.noTms {K : Fw} {F : Frm} {S H : Hp} {ρ : Rho} {σ : St} {as bs : List Addr} (c : Cf K F S ρ [] σ [] H as bs) : Cf K F S ρ [] σ [] H as [] := by
  have h := c.tms
  cases h
  exact c
def hotC (cf : Str → Bool) : Str → Bool := fun x => decide (x = "") || cf x
/-- the context of a suite -/
theorem FitS.suite (f : FitS X N sc cf G) {a : Addr} {o : Obj} {cl : Value} {dd : Option Addr} {pn : List (Addr × Obj)} (hz : Zc cl dd o) (hf : ∃ fv, o.data = .fields fv) {c : Str} (hm : X.mg c = some cl) {F : Frm} (hF : F.xa = some ⟨a, c, cl, dd⟩) :
    FitS (X.suite a ((a, o) :: pn)) N sc (hotC cf) ⟨G.K, G.mg, F, W0⟩ :=
  ⟨⟨f.fit.hN, f.fit.nd, f.fit.sc, f.fit.un, f.fit.K, f.fit.mg, takes0, f.fit.bn, fun _ c' h => by
      rw [hF] at h
      cases h
      exact ⟨X, o, pn, rfl, hz, hf, hm⟩⟩,
    ⟨fun x h => f.cc.fn x ⟨h.1, by
      have h2 := h.2
      unfold hotC at h2
      simpa [h.1] using h2⟩, fun z => by simp [hotC] at z, fun _ => rfl⟩, PassesOwn.never, f.st, f.fr, fun z => by cases z⟩
theorem FitS.tr (f : FitS X N sc cf G) (h0 : X.calm = true) {W : WX} {pn : List (Addr × Obj)} {xe : Value → Shared → Prop} (tk : Takes (X.tr pn xe) W) (po : PassesOwn (model X.prog X.w) X.A X.env xe) : FitS (X.tr pn xe) N sc cf { G with W := W } :=
  ⟨⟨f.fit.hN, f.fit.nd, f.fit.sc, f.fit.un, f.fit.K, f.fit.mg, tk, f.fit.bn, fun z => absurd (h0.symm.trans z) (by decide)⟩, ⟨f.cc.fn, f.cc.calm, f.cc.hot⟩, po, f.st, f.fr, f.nx⟩
/-- the clauses of a try -/
def HsR (X : Cx) (G : Gx) (n : Nat) (hs : Hs) (hds : List ExceptHandler) : Prop := ∃ l, ClsOk X hds l ∧ ∀ D x ρ σ H cls dd, ConfE G ρ [] σ [] H x cls dd → OutR G D (evalHs n hs x ρ) → wCls X.K G.W D l cls dd σ H
theorem hs_nil : HsR X G n .nil [] := ⟨[], .nil, fun D x ρ σ H cls dd c q => by
  unfold evalHs at q
  exact q cls dd σ H c⟩
/-- what a suite wishes -/
def tSu (G : Gx) (mg : Str → Option Value) (n : Nat) (b : Ss) (a : Addr) (cl : Value) (dd : Option Addr) : TS := fun D σ H => ∃ p : { p : Str × Frm // p.2.xa = some ⟨a, p.1, cl, dd⟩ ∧ mg p.1 = some cl }, tSs ⟨G.K, G.mg, p.1.2, W0⟩ n b D σ H
theorem hs_red (f : FitS X N sc cf G) (h0 : X.calm = true) {c : Str} {t : List (Str × Bool)} {nm : Option Nat} {b : Ss} {hs : Hs} {v : V} {u : Value} {l : List Cl} (ht : ∀ p ∈ t, ∃ C, X.mg p.1 = some (.ref C) ∧ PySem.W.exmOne X.K (.ref C) u = some p.2)
    (hr : ∀ D x ρ σ H cls dd, ConfE G ρ [] σ [] H x cls dd → OutR G D (evalHs n hs x ρ) → wCls X.K G.W D l cls dd σ H) :
    ∀ D x ρ σ H cls dd, ConfE G ρ [] σ [] H x cls dd → OutR G D (evalHs n (.cons c t nm b hs) x ρ) → wCls X.K G.W D (⟨u, nm, tSu G X.mg n b⟩ :: l) cls dd σ H := fun D x ρ σ H cls dd c0 q => by
  obtain ⟨S, as, bs, c1, hm, hd⟩ := id c0
  unfold evalHs at q
  split at q
  · rename_i e
    obtain ⟨C, g1, g2⟩ := ht _ (lookup_mem e)
    have hm' : X.mg x.cls = some cls := by rw [← f.fit.mg]; exact hm
    rw [hm'] at g1
    cases g1
    refine ⟨true, g2, fun _ a ha => ?_, fun z => Bool.noConfusion z⟩
    have c2 := c1.noTms.hold (a := a) (cls := .ref C) (f.nx h0) hd nm
    refine ⟨⟨(x.cls, _), rfl, hm'⟩, _, c2, ?_⟩
    cases er : evalSs n b (setX nm (.ex x) ρ) with
    | next ρ' =>
      rw [er] at q
      by_cases hn : noEx (setX nm .un ρ') = true
      · have q' : OutR G D (.next (setX nm .un ρ')) := by simpa [hn] using q
        intro σ2 H2 c3
        have c4 := c3.letGo (F := G.F) nm hn
        cases nm with
        | none => exact q' _ _ c4
        | some i => exact q' _ _ c4
      · simp only [if_neg hn] at q
        exact q.elim
    | _ => rw [er] at q; exact q.elim
  · rename_i e
    obtain ⟨C, g1, g2⟩ := ht _ (lookup_mem e)
    have hm' : X.mg x.cls = some cls := by rw [← f.fit.mg]; exact hm
    rw [hm'] at g1
    cases g1
    exact ⟨false, g2, fun z => Bool.noConfusion z, fun _ => hr D x ρ σ H _ dd c0 q⟩
  · exact q.elim
theorem hs_cons0 (f : FitS X N sc cf G) (h0 : X.calm = true) {c : Str} {t : List (Str × Bool)} {b : Ss} {hs : Hs} {s₀ : Stmt} {ss : List Stmt} {q1 q2 : Pos} {hds : List ExceptHandler} (hg : glOk sc c = true) (nd : XmN X.K X.mg c t)
    (hb : ∀ (X' : Cx) (G' : Gx), FitS X' N sc (hotC cf) G' → (∃ A, X'.md = { X.md with A := A }) → PSs X' (s₀ :: ss) (tSs G' n b)) (hr : HsR X G n hs hds) : HsR X G n (.cons c t none b hs) (.ExceptHandler (some (.Name c q1)) none (s₀ :: ss) q2 :: hds) := by
  obtain ⟨v, u, hv, ht⟩ := nd
  obtain ⟨l, h1, h2⟩ := hr
  refine ⟨⟨u, none, tSu G X.mg n b⟩ :: l, .none (f.fit.names hg hv) (fun a o cl dd pn hz hf => ?_) h1, hs_red f h0 (v := v) ht h2⟩
  exact pss_ex fun p => hb _ _ (f.suite hz hf p.2.2 p.2.1) ⟨_, rfl⟩
theorem hs_cons1 (f : FitS X N sc cf G) (h0 : X.calm = true) {c y : Str} {i : Nat} {t : List (Str × Bool)} {b : Ss} {hs : Hs} {s₀ : Stmt} {ss : List Stmt} {q1 q2 : Pos} {hds : List ExceptHandler} (hg : glOk sc c = true) (nd : XmN X.K X.mg c t) (hi : N[i]? = some y) (hl : sc.names.lookup y = some .local)
    (hb : ∀ (X' : Cx) (G' : Gx), FitS X' N sc (hotC cf) G' → (∃ A, X'.md = { X.md with A := A }) → PSs X' (s₀ :: ss) (tSs G' n b)) (hr : HsR X G n hs hds) : HsR X G n (.cons c t (some i) b hs) (.ExceptHandler (some (.Name c q1)) (some y) (s₀ :: ss) q2 :: hds) := by
  obtain ⟨v, u, hv, ht⟩ := nd
  obtain ⟨l, h1, h2⟩ := hr
  refine ⟨⟨u, some i, tSu G X.mg n b⟩ :: l, .some (f.fit.names hg hv) (by rw [f.fit.hN]; exact hi) (by show X.env.scope.names.lookup y = _; rw [f.fit.sc]; exact hl) (fun a o cl dd pn hz hf => ?_) h1, hs_red f h0 (v := v) ht h2⟩
  exact pss_ex fun p => hb _ _ (f.suite hz hf p.2.2 p.2.1) ⟨_, rfl⟩
theorem s_try (f : FitS X N sc cf G) (h0 : X.calm = true) {b : Ss} {hs : Hs} {body : List Stmt} {c₀ : ExceptHandler} {cs : List ExceptHandler} (hb : ∀ (X' : Cx) (G' : Gx), FitS X' N sc cf G' → X'.md = X.md → PSs X' body (tSs G' n b)) (hr : HsR X G n hs (c₀ :: cs)) :
    PS X (.Try body (c₀ :: cs) [] [] pos) (tS G n (.try_ b hs)) := by
  obtain ⟨l, h1, h2⟩ := hr
  refine PS.imp (ps_tryC (tb := fun W => tSs { G with W := W } n b) f.st f.fr f.fit.nd f.fit.tk (fun W pn xe tk po => hb _ _ (f.tr h0 tk po) rfl) h1) fun D σ H ⟨ρ, c, q⟩ => ⟨ρ, c, ?_⟩
  unfold evalS at q
  cases er : evalSs n b ρ with
  | exc x ρ' =>
    rw [er] at q
    exact fun cls dd σ H c' => h2 D x ρ' σ H cls dd c' q
  | next ρ' => rw [er] at q; exact q
  | brk ρ' => rw [er] at q; exact q
  | cnt ρ' => rw [er] at q; exact q
  | ret t ρ' => rw [er] at q; exact q
  | bad => rw [er] at q; exact q
end
end Ev

-- Ev13
/-! Ev13: statements are checked; a def keeps its promise. -/
namespace Ev
open PySem L2

/-! ### shapes of assignments -/
def swapB (sc : Scope) (y : Str) (py : Pos) (scope : Scope) (p : Pos) : Bool :=
  decide (sc.names.lookup y = some .local) && (py.line == p.line) && !(scope.names.any fun (n, k) => n == y && (k == .local || k == .cell))
theorem sw_true' {elt : Expr} {gs : List Comprehension} {scope : Scope} {pos py : Pos} {y : Str} {l : Nat} {env : Env} (hk : env.scope.kind = .function) (h : swapB env.scope y py scope pos = true) : swapsWith (.ListComp elt gs scope pos) (some (.Name y py)) l env = pure true := by
  unfold swapB at h
  simp only [Bool.and_eq_true, decide_eq_true_eq, Bool.not_eq_true'] at h
  exact sw_true hk h.1.1 h.1.2 h.2
theorem sw_false {elt : Expr} {gs : List Comprehension} {scope : Scope} {pos py : Pos} {y : Str} {l : Nat} {env : Env} (hk : env.scope.kind = .function) (h : swapB env.scope y py scope pos = false) : swapsWith (.ListComp elt gs scope pos) (some (.Name y py)) l env = pure false := by
  have hb : env.blockKind = .function := by unfold Env.blockKind; rw [hk]; rfl
  have e : (env.kindOf y == some .local) = decide (env.scope.names.lookup y = some .local) := by
    show (env.scope.names.lookup y == some .local) = _
    by_cases q : env.scope.names.lookup y = some .local
    · rw [q]; rfl
    · rw [decide_eq_false q]
      simpa using q
  unfold swapB at h
  unfold swapsWith
  simp only [hb, e, Expr.pos]
  show (pure ((ScopeKind.function == .function) && _ && _ && _) : Sem Bool) = pure false
  rw [show ((ScopeKind.function == .function) : Bool) = true from rfl, Bool.true_and, h]
def notTup : Expr → Bool
  | .Tuple _ _ _ => false
  | _ => true
theorem notTup_ok {e : Expr} (h : notTup e = true) (t : Expr) (env : Env) : swappedStores [t] e env = pure none := by
  cases e <;> first | (cases h; done) | (cases t <;> rfl)
/-- a, b = x, y by plain local names of one line -/
def parB (sc : Scope) (x y : Str) (px py : Pos) (a b : Expr) : Bool :=
  decide (sc.kind = .function) && decide (sc.names.lookup x = some .local) && decide (sc.names.lookup y = some .local) && (py.line == px.line) && !decide (x = y) && notStar a && notStar b &&
    !(foldedForSure 8 a && foldedForSure 8 b) && !(constantsAlone 8 a && constantsAlone 8 b)
theorem parB_ok {sc : Scope} {x y : Str} {px py pt pt2 : Pos} {kt k2 : Nat} {a b : Expr} {env : Env} (hs : env.scope = sc) (h : parB sc x y px py a b = true) :
    swappedStores [.Tuple [.Name x px, .Name y py] kt pt] (.Tuple [a, b] k2 pt2) env = pure (some [x, y]) ∧ x ≠ y ∧ env.scope.names.lookup x = some .local ∧ env.scope.names.lookup y = some .local := by
  unfold parB at h
  simp only [Bool.and_eq_true, decide_eq_true_eq, Bool.not_eq_true', decide_eq_false_iff_not] at h
  obtain ⟨⟨⟨⟨⟨⟨⟨⟨h1, h2⟩, h3⟩, h4⟩, h5⟩, h6⟩, h7⟩, h8⟩, h9⟩ := h
  subst hs
  refine ⟨?_, h5, h2, h3⟩
  have hb : env.blockKind = .function := by unfold Env.blockKind; rw [h1]; rfl
  have kx : env.kindOf x = some .local := h2
  have ky : env.kindOf y = some .local := h3
  have sa : ¬((match (generalizing := false) a with | .Starred .. => true | _ => false) = true ∨ (match (generalizing := false) b with | .Starred .. => true | _ => false) = true) := by
    cases a <;> first | (cases h6; done) | (cases b <;> first | (cases h7; done) | (intro z; rcases z with z | z <;> cases z))
  unfold swappedStores
  simp only [List.length_cons, List.length_nil, hb, List.filterMap_cons, List.filterMap_nil, kx, ky, List.head?_cons, Option.map_some, Option.getD_some, Expr.pos, h4, BEq.rfl, Bool.and_self, if_true, List.all_cons, List.all_nil, Bool.and_true, h8, h9]
  have e2 : ([x, y].eraseDups.length != 2) = false := by
    have : (y == x) = false := by simpa using (Ne.symm h5)
    simp [List.eraseDups_cons, this]
  simp [e2]
  exact fun z => absurd z sa

def asgOk (sc : Scope) : Expr → Bool
  | .ListComp _ _ _ _ => decide (sc.kind = .function)
  | v => notComp v
/-! ### the check -/
mutual
def chkS (N : List Str) (sc : Scope) (cf : Str → Bool) : S → Stmt → Bool
  | .bad, _ => true
  | .asg i _ e, .Assign [.Name y _] v _ => locOk N sc cf i y && chkE N sc cf e v && asgOk sc v
  | .asgT tg e, .Assign [t] v _ => tgOk N sc cf tg t && chkE N sc cf e v && notComp v && notTup v
  | .par [i, j] es, .Assign [.Tuple [.Name x px, .Name y py] _ _] (.Tuple [a, b] _ _) _ => !cf "" && decide (N[i]? = some x) && decide (N[j]? = some y) && parB sc x y px py a b && chkEs N sc cf es [a, b]
  | .rais c m, .Raise (some (.Call (.Name x _) [.Constant (.str y) _ _] [] _)) none _ => !cf "" && decide (x = c) && decide (y = m) && glOk sc c
  | .raip c _ _ e, .Raise (some (.Call (.Name x _) [a] [] _)) none _ => !cf "" && decide (x = c) && glOk sc c && notStar a && chkE N sc cf e a
  | .try_ b hs, .Try body (h :: hds) [] [] _ => !cf "" && chkSs N sc cf b body && chkHs N sc cf hs (h :: hds)
  | .dput i k e, .Assign [.Subscript (.Name x _) a _] v _ => nameOk N sc i x && plainIx a && notComp v && chkE N sc cf k a && chkE N sc cf e v
  | .setI i k e, .Assign [.Subscript (.Name x _) a _] v _ => nameOk N sc i x && plainIx a && notComp v && chkE N sc cf k a && chkE N sc cf e v
  | .aug i o e, .AugAssign (.Name x _) op v _ => locOk N sc cf i x && bopIn o op && chkE N sc cf e v
  | .augI i k o e, .AugAssign (.Subscript (.Name x _) a _) op v _ => nameOk N sc i x && bopIn o op && plainIx a && chkE N sc cf k a && chkE N sc cf e v
  | .expr e, .Expr v _ => notComp v && chkE N sc cf e v
  | .pass, .Expr (.Constant (.str _) _ _) _ => true
  | .pass, .Pass _ => true
  | .ifs t a b, .If c sa sb _ => chkT N sc cf t c && chkSs N sc cf a sa && chkSs N sc cf b sb
  | .for_ _ tg it b, .For t iter body [] _ => !cf "" && notSet iter && tgOk N sc cf tg t && chkI N sc cf it t iter && chkSs N sc cf b body
  | .whl _ t b, .While c body [] _ => chkT N sc cf t c && chkSs N sc cf b body
  | .ret e, .Return (some v) _ => chkE N sc cf e v
  | .retN, .Return none _ => true
  | .brk, .Break _ => true
  | .cnt, .Continue _ => true
  | _, _ => false
def chkSs (N : List Str) (sc : Scope) (cf : Str → Bool) : Ss → List Stmt → Bool
  | .nil, [] => true
  | .cons s ss, st :: sts => chkS N sc cf s st && chkSs N sc cf ss sts
  | .fgt _ ss, sts => chkSs N sc cf ss sts
  | _, _ => false
def chkHs (N : List Str) (sc : Scope) (cf : Str → Bool) : Hs → List ExceptHandler → Bool
  | .nil, [] => true
  | .cons c _ none b hs, .ExceptHandler (some (.Name y _)) none (s :: ss) _ :: hds => decide (y = c) && glOk sc c && chkSs N sc (hotC cf) b (s :: ss) && chkHs N sc cf hs hds
  | .cons c _ (some i) b hs, .ExceptHandler (some (.Name y _)) (some z) (s :: ss) _ :: hds => decide (y = c) && glOk sc c && decide (N[i]? = some z) && decide (sc.names.lookup z = some .local) && chkSs N sc (hotC cf) b (s :: ss) && chkHs N sc cf hs hds
  | _, _ => false
end
mutual
def needS (M : Md) : S → Prop
  | .asg _ _ e => needE M e
  | .asgT _ e => needE M e
  | .par _ es => needEs M es
  | .setI _ k e => needE M k ∧ needE M e
  | .dput _ k e => needE M k ∧ needE M e
  | .rais c _ => RaiN M.K.K M.mg c
  | .raip c fl _ e => RaiI M c fl ∧ needE M e
  | .try_ b hs => needSs M b ∧ needHs M hs
  | .aug _ _ e => needE M e
  | .augI _ k _ e => needE M k ∧ needE M e
  | .expr e => needE M e
  | .ifs t a b => needT M t ∧ needSs M a ∧ needSs M b
  | .for_ _ _ it b => needI M it ∧ needSs M b
  | .whl _ t b => needT M t ∧ needSs M b
  | .ret e => needE M e
  | _ => True
def needSs (M : Md) : Ss → Prop
  | .nil => True
  | .cons s ss => needS M s ∧ needSs M ss
  | .fgt _ ss => needSs M ss
def needHs (M : Md) : Hs → Prop
  | .nil => True
  | .cons c t _ b hs => XmN M.K.K M.mg c t ∧ (∀ A, needSs { M with A := A } b) ∧ needHs M hs
end
section
variable {X : Cx} {N : List Str} {sc : Scope} {cf : Str → Bool} {G : Gx} {n : Nat}
theorem s_asg (f : FitS X N sc cf G) {i : Nat} {keep : Bool} {e : E} {y : Str} {py pos : Pos} {v : Expr} (h1 : locOk N sc cf i y = true) (h2 : chkE N sc cf e v = true) (h3 : asgOk sc v = true) (nd : needE X.md e) : PS X (.Assign [.Name y py] v pos) (tS G n (.asg i keep e)) := by
  obtain ⟨k1, k2, k3⟩ := locOk_iff h1
  have hN : X.N[i]? = some y := by rw [f.fit.hN]; exact k1
  have hL : Loc X.env.scope y := by rw [f.fit.sc]; exact k2
  have hF : X.fn y = true ∨ X.env.scope.names.lookup y = some .local := k3.imp (f.cc.fn y) fun q => by rw [f.fit.sc]; exact q
  have plain : swapsWith v (some (.Name y py)) pos.line X.env = pure false → PS X (.Assign [.Name y py] v pos) (tS G n (.asg i keep e)) := fun hs =>
    PS.imp (ps_set (i := i) f.fit.nd hN hL (okE f.fit f.cc e v h2 nd) hs hF) fun D σ H q => asg_red q
  by_cases hc : notComp v = true
  · exact plain (notComp_ok hc _ _ _)
  · cases v with
    | ListComp elt gs scope p2 =>
      have hk : X.env.scope.kind = .function := by
        rw [f.fit.sc]
        unfold asgOk at h3
        simpa using h3
      cases hsw : swapB X.env.scope y py scope p2 with
      | false => exact plain (sw_false hk hsw)
      | true =>
        have hl : X.env.scope.names.lookup y = some .local := by
          unfold swapB at hsw
          simp only [Bool.and_eq_true, decide_eq_true_eq] at hsw
          exact hsw.1.1
        cases e with
        | bad => exact PS.imp ps_never fun D σ H ⟨ρ, c, q⟩ => by unfold evalS evalE at q; exact q
        | lc own tg it c e =>
          unfold chkE at h2
          split at h2
          all_goals try (rename_i hv; cases hv; done)
          all_goals try (rename_i hv hw; cases hv; done)
          all_goals try (cases h2; done)
          rename_i hx hy
          cases hx
          cases hy
          simp only [Bool.and_eq_true] at h2
          obtain ⟨⟨⟨⟨⟨⟨⟨h0, g1⟩, g2⟩, g3⟩, g4⟩, g5⟩, g6⟩, g7⟩ := h2
          have h0 := f.cc.calm h0
          unfold needE at nd
          refine PS.imp (ps_setLc h0 f.fit.nd hN hl (sw_true' hk hsw) (okI f.fit f.cc _ _ _ g4 nd.1) (f.fit.hN ▸ f.fit.sc ▸ blkOk_by g3) (fun s H C cl fp => pg_ex fun F => s_tg (f.fit.blk h0 F s H C cl fp) (cf_blk h0) g5)
            (fun s H C cl fp => pts_ex fun F => okC (f.fit.blk h0 F s H C cl fp) (cf_blk h0) _ _ g6 nd.2.1) (fun s H C cl fp => pe_ex fun F => okE (f.fit.blk h0 F s H C cl fp) (cf_blk h0) _ _ g7 nd.2.2) (notSet_ok g2 _)) fun D σ H q => lc_red g1 (asg_red q)
        | lc2 own tg it tg1 it1 c e =>
          unfold chkE at h2
          split at h2
          all_goals try (rename_i hv; cases hv; done)
          all_goals try (rename_i hv hw; cases hv; done)
          all_goals try (cases h2; done)
          rename_i hx hy
          cases hx
          cases hy
          simp only [Bool.and_eq_true] at h2
          obtain ⟨⟨⟨⟨⟨⟨⟨⟨⟨⟨⟨h0, g1⟩, g1'⟩, g2⟩, g2'⟩, g3⟩, g4⟩, g5⟩, g4'⟩, g5'⟩, g6⟩, g7⟩ := h2
          have h0 := f.cc.calm h0
          unfold needE at nd
          refine PS.imp (ps_setLc2 h0 f.fit.nd hN hl (sw_true' hk hsw) (okI f.fit f.cc _ _ _ g4 nd.1) (f.fit.hN ▸ f.fit.sc ▸ blkOk_by g3) (fun i hi => by simpa using List.all_eq_true.mp g1' i hi) (fun s H C cl fp => pg_ex fun F => s_tg (f.fit.blk h0 F s H C cl fp) (cf_blk h0) g5)
            (fun _ _ _ _ _ => pts_nil) (fun s H C cl fp => pi_ex fun F => okI (f.fit.blk h0 F s H C cl fp) (cf_blk h0) _ _ _ g4' nd.2.1) (fun s H C cl fp => pg_ex fun F => s_tg (f.fit.blk h0 F s H C cl fp) (cf_blk h0) g5')
            (fun s H C cl fp => pts_ex fun F => okC (f.fit.blk h0 F s H C cl fp) (cf_blk h0) _ _ g6 nd.2.2.1) (fun s H C cl fp => pe_ex fun F => okE (f.fit.blk h0 F s H C cl fp) (cf_blk h0) _ _ g7 nd.2.2.2) (notSet_ok g2 _) (fun env => notSet_ok g2' env)) fun D σ H q => lc2_red g1 g1' (asg_red q)
        | _ => unfold chkE at h2; simp at h2
    | _ => exact absurd h3 hc
theorem s_asgT (f : FitS X N sc cf G) {tg : Tg} {e : E} {t v : Expr} {pos : Pos} (h1 : tgOk N sc cf tg t = true) (h2 : chkE N sc cf e v = true) (h3 : notComp v = true) (h4 : notTup v = true) (nd : needE X.md e) : PS X (.Assign [t] v pos) (tS G n (.asgT tg e)) := by
  refine PS.imp (ps_asg (okE f.fit f.cc e v h2 nd) (s_tg f.fit f.cc h1) (show swapsWithSole [t] v pos.line X.env = pure false from notComp_ok h3 (some t) pos.line X.env) (notTup_ok h4 _ _) ?_) fun D σ H q => asgT_red q
  cases t <;> first | rfl | (cases tg <;> simp [tgOk] at h1)
theorem s_par (f : FitS X N sc cf G) (h0 : X.calm = true) {i j : Nat} {es : Es} {x y : Str} {px py pt pt2 pos : Pos} {kt k2 : Nat} {a b : Expr} (h1 : N[i]? = some x) (h2 : N[j]? = some y) (h3 : parB sc x y px py a b = true) (h4 : chkEs N sc cf es [a, b] = true) (nd : needEs X.md es) :
    PS X (.Assign [.Tuple [.Name x px, .Name y py] kt pt] (.Tuple [a, b] k2 pt2) pos) (tS G n (.par [i, j] es)) := by
  obtain ⟨g1, g2, g3, g4⟩ := parB_ok (kt := kt) (pt := pt) (k2 := k2) (pt2 := pt2) f.fit.sc h3
  have hij : i ≠ j := by
    rintro rfl
    rw [h1] at h2
    exact g2 (Option.some.inj h2)
  exact PS.imp (ps_par h0 f.fit.nd (by rw [f.fit.hN]; exact h1) (by rw [f.fit.hN]; exact h2) hij g3 g4 (okEs f.fit f.cc es [a, b] h4 nd) g1 rfl) fun D σ H q => par_red2 q
end

mutual
theorem okS {X : Cx} {N : List Str} {sc : Scope} {cf : Str → Bool} {G : Gx} {n : Nat} (f : FitS X N sc cf G) (s : S) (st : Stmt) (h : chkS N sc cf s st = true) (nd : needS X.md s) : PS X st (tS G n s) := by
  unfold chkS at h
  unfold needS at nd
  split at h
  · exact s_never
  · simp only [Bool.and_eq_true] at h
    exact s_asg f h.1.1 h.1.2 h.2 nd
  · simp only [Bool.and_eq_true] at h
    exact s_asgT f h.1.1.1 h.1.1.2 h.1.2 h.2 nd
  · simp only [Bool.and_eq_true, decide_eq_true_eq] at h
    exact s_par f (f.cc.calm (by simpa using h.1.1.1.1)) h.1.1.1.2 h.1.1.2 h.1.2 h.2 nd
  · simp only [Bool.and_eq_true, decide_eq_true_eq] at h
    obtain ⟨⟨⟨h0, rfl⟩, rfl⟩, h1⟩ := h
    exact s_rais f (f.cc.calm (by simpa using h0)) h1 nd
  · simp only [Bool.and_eq_true, decide_eq_true_eq] at h
    obtain ⟨⟨⟨⟨h0, rfl⟩, h1⟩, h2⟩, h3⟩ := h
    exact s_raip f (f.cc.calm (by simpa using h0)) h1 nd.1 (okE f.fit f.cc _ _ h3 nd.2) (starEach_cons h2)
  · simp only [Bool.and_eq_true] at h
    have h0 := f.cc.calm (by simpa using h.1.1)
    exact s_try f h0 (fun X' G' f' e => okSs f' _ _ h.1.2 (by rw [e]; exact nd.1)) (okHs f h0 _ _ h.2 nd.2)
  · simp only [Bool.and_eq_true] at h
    exact s_dput f h.1.1.1.1 (okE f.fit f.cc _ _ h.1.2 nd.1) (okE f.fit f.cc _ _ h.2 nd.2) h.1.1.1.2 h.1.1.2
  · simp only [Bool.and_eq_true] at h
    exact s_setI f h.1.1.1.1 (okE f.fit f.cc _ _ h.1.2 nd.1) (okE f.fit f.cc _ _ h.2 nd.2) h.1.1.1.2 h.1.1.2
  · simp only [Bool.and_eq_true] at h
    exact s_aug f h.1.1 h.1.2 (okE f.fit f.cc _ _ h.2 nd)
  · simp only [Bool.and_eq_true] at h
    exact s_augI f h.1.1.1.1 h.1.1.1.2 h.1.1.2 (okE f.fit f.cc _ _ h.1.2 nd.1) (okE f.fit f.cc _ _ h.2 nd.2)
  · simp only [Bool.and_eq_true] at h
    exact s_expr (okE f.fit f.cc _ _ h.2 nd) h.1
  · exact s_doc
  · exact s_pass
  · simp only [Bool.and_eq_true] at h
    exact s_ifs (okT f.fit f.cc _ _ h.1.1 nd.1) (okSs f _ _ h.1.2 nd.2.1) (okSs f _ _ h.2 nd.2.2)
  · simp only [Bool.and_eq_true] at h
    exact s_for f (f.cc.calm (by simpa using h.1.1.1.1)) (okI f.fit f.cc _ _ _ h.1.2 nd.1) (pg_ex fun F => s_tg (f.frm F).fit f.cc h.1.1.2) (pss_ex fun F => okSs (f.frm F) _ _ h.2 nd.2) h.1.1.1.2
  · simp only [Bool.and_eq_true] at h
    exact s_whl f (okT f.fit f.cc _ _ h.1 nd.1) (okSs f _ _ h.2 nd.2)
  · exact s_ret (okE f.fit f.cc _ _ h nd)
  · exact s_retN
  · exact s_brk
  · exact s_cnt
  · cases h
termination_by sizeOf s
theorem okSs {X : Cx} {N : List Str} {sc : Scope} {cf : Str → Bool} {G : Gx} {n : Nat} (f : FitS X N sc cf G) (s : Ss) (st : List Stmt) (h : chkSs N sc cf s st = true) (nd : needSs X.md s) : PSs X st (tSs G n s) := by
  unfold chkSs at h
  unfold needSs at nd
  split at h
  · exact s_nil
  · simp only [Bool.and_eq_true] at h
    exact s_cons (okS f _ _ h.1 nd.1) (okSs f _ _ h.2 nd.2)
  · exact s_fgt (okSs f _ _ h nd)
  · cases h
termination_by sizeOf s
theorem okHs {X : Cx} {N : List Str} {sc : Scope} {cf : Str → Bool} {G : Gx} {n : Nat} (f : FitS X N sc cf G) (h0 : X.calm = true) (hs : Hs) (hds : List ExceptHandler) (h : chkHs N sc cf hs hds = true) (nd : needHs X.md hs) : HsR X G n hs hds := by
  unfold chkHs at h
  unfold needHs at nd
  split at h
  · exact hs_nil
  · simp only [Bool.and_eq_true, decide_eq_true_eq] at h
    obtain ⟨⟨⟨rfl, h1⟩, h2⟩, h3⟩ := h
    exact hs_cons0 f h0 h1 nd.1 (fun X' G' f' ⟨A, e⟩ => okSs f' _ _ h2 (by rw [e]; exact nd.2.1 A)) (okHs f h0 _ _ h3 nd.2.2)
  · simp only [Bool.and_eq_true, decide_eq_true_eq] at h
    obtain ⟨⟨⟨⟨⟨rfl, h1⟩, h4⟩, h5⟩, h2⟩, h3⟩ := h
    exact hs_cons1 f h0 h1 nd.1 h4 h5 (fun X' G' f' ⟨A, e⟩ => okSs f' _ _ h2 (by rw [e]; exact nd.2.1 A)) (okHs f h0 _ _ h3 nd.2.2)
  · cases h
termination_by sizeOf hs
end
end Ev

-- Ev14
/-! Ev14: a def of the module keeps the promise of its IR. -/
namespace Ev
open PySem L2

section
variable {K : Fw} {F : Frm} {H S : Hp}
/-- the parameters that may change, in order -/
def parsOk (pars : List (Option Nat)) : Bool := decide (pars.filterMap id = List.range (pars.filterMap id).length)
def iosB (pars : List (Option Nat)) : List Bool := pars.map (·.isSome)
theorem start_slots : ∀ {pars : List (Option Nat)} {vs : List V} {ds : List D} {as : List Addr} {ρ : Rho} {k : Nat}, ArgR K H S (iosB pars) vs ds as → parSl pars ds = some ρ → pars.filterMap id = List.range' k as.length → (∀ j : Nat, F.io[k + j]? = as[j]?) →
    SlRs K F H S ρ (vs.map some) as
  | [], _, _, _, ρ, k, h, e, _, _ => by
    cases h
    cases e
    exact .nil
  | none :: pars, _, _, as, ρ, k, .val (d := d) r h, e, hk, hj => by
    obtain ⟨ρ', e1, rfl⟩ := Option.map_eq_some_iff.mp (show (parSl pars _).map (.sh d :: ·) = some ρ from e)
    exact .cons (as := []) (.sh r) (start_slots h e1 (by simpa using hk) hj)
  | some k' :: pars, _, _, _, ρ, k, .io (d := d) (a := a) (as := as) r h, e, hk, hj => by
    obtain ⟨ρ', e1, rfl⟩ := Option.map_eq_some_iff.mp (show (parSl pars _).map (.io k' d :: ·) = some ρ from e)
    have hk2 : k' :: pars.filterMap id = k :: List.range' (k + 1) as.length := by
      have : (some k' :: pars).filterMap id = k' :: pars.filterMap id := rfl
      rw [← this, hk, List.length_cons, List.range'_succ]
    injection hk2 with h1 h2
    subst h1
    exact .cons (as := [a]) (.io r (by have := hj 0; simpa using this)) (start_slots h e1 h2 fun j => by
      have := hj (j + 1)
      rw [show k' + (j + 1) = k' + 1 + j by omega] at this
      simpa using this)
theorem un_slots {n : Nat} : SlRs K F H S (List.replicate n .un) (List.replicate n none) [] := by
  induction n with
  | zero => exact .nil
  | succ n ih => exact .cons (as := []) (.un _) ih
theorem SlRs.app : ∀ {ρ ρ' : Rho} {σ σ' : St} {as bs : List Addr}, SlRs K F H S ρ σ as → SlRs K F H S ρ' σ' bs → SlRs K F H S (ρ ++ ρ') (σ ++ σ') (as ++ bs)
  | _, _, _, _, _, _, .nil, q => q
  | _, _, _, _, _, _, .cons h r, q => by
    rw [List.append_assoc]
    exact .cons h (SlRs.app r q)
theorem parSl_len : ∀ {pars : List (Option Nat)} {ds : List D} {ρ : Rho}, parSl pars ds = some ρ → ds.length = pars.length
  | [], [], _, _ => rfl
  | none :: ps, d :: ds, ρ, e => by
    obtain ⟨ρ', e1, _⟩ := Option.map_eq_some_iff.mp (show (parSl ps ds).map (.sh d :: ·) = some ρ from e)
    rw [List.length_cons, List.length_cons, parSl_len e1]
  | some k :: ps, d :: ds, ρ, e => by
    obtain ⟨ρ', e1, _⟩ := Option.map_eq_some_iff.mp (show (parSl ps ds).map (.io k d :: ·) = some ρ from e)
    rw [List.length_cons, List.length_cons, parSl_len e1]
  | [], _ :: _, _, e => by cases e
  | none :: _, [], _, e => by cases e
  | some _ :: _, [], _, e => by cases e
theorem ArgR.len {bs : List Bool} {vs : List V} {ds : List D} {as : List Addr} (h : ArgR K H S bs vs ds as) : vs.length = bs.length ∧ ds.length = bs.length := by
  induction h with
  | nil => exact ⟨rfl, rfl⟩
  | val _ _ ih => exact ⟨by simp [ih.1], by simp [ih.2]⟩
  | io _ _ ih => exact ⟨by simp [ih.1], by simp [ih.2]⟩
theorem ArgR.cnt {vs : List V} {ds : List D} : ∀ {pars : List (Option Nat)} {vs : List V} {ds : List D} {as : List Addr}, ArgR K H S (iosB pars) vs ds as → (pars.filterMap id).length = as.length
  | [], _, _, _, h => by cases h; rfl
  | none :: ps, _, _, _, .val _ h => by simpa using ArgR.cnt (vs := []) (ds := []) h
  | some k :: ps, _, _, _, .io _ h => by
    have := ArgR.cnt (vs := []) (ds := []) h
    show (k :: ps.filterMap id).length = _
    rw [List.length_cons, List.length_cons, this]
theorem ArgR.own {bs : List Bool} {vs : List V} {ds : List D} {as : List Addr} (h : ArgR K H S bs vs ds as) : ∀ a ∈ as, ∃ o, H a = some o := by
  induction h with
  | nil => intro a ha; simp at ha
  | val _ _ ih => exact ih
  | io ow _ ih =>
    intro a ha
    rcases List.mem_cons.mp ha with rfl | q
    · exact ow.there
    · exact ih a q
/-- what the changed parameters hold at the end -/
theorem end_ios : ∀ {pars : List (Option Nat)} {ρ : Rho} {σ : St} {asl : List Addr} {ios : List D} {as : List Addr} {k : Nat}, SlRs K F H S ρ σ asl → iosOf pars ρ = some ios → pars.filterMap id = List.range' k as.length → (∀ j : Nat, F.io[k + j]? = as[j]?) → IoR K H S as ios
  | [], _, _, _, _, as, k, _, e, hk, _ => by
    cases e
    cases as with
    | nil => exact .nil
    | cons a as => rw [List.length_cons, List.range'_succ] at hk; cases hk
  | none :: ps, _ :: ρ, _, _, ios, as, k, .cons _ r, e, hk, hj => end_ios r (show iosOf ps ρ = some ios from e) (by simpa using hk) hj
  | none :: ps, [], _, _, _, _, _, _, e, _, _ => by cases e
  | some k' :: ps, [], _, _, _, _, _, _, e, _, _ => by cases e
  | some k' :: ps, s :: ρ, _, _, ios, as, k, .cons h r, e, hk, hj => by
    cases as with
    | nil => exact absurd hk (by show k' :: ps.filterMap id ≠ []; exact List.cons_ne_nil _ _)
    | cons a as =>
      have hk2 : k' :: ps.filterMap id = k :: List.range' (k + 1) as.length := by
        have : (some k' :: ps).filterMap id = k' :: ps.filterMap id := rfl
        rw [← this, hk, List.length_cons, List.range'_succ]
      injection hk2 with h1 h2
      subst h1
      cases s with
      | io k2 d =>
        have e' : (if k' = k2 then (iosOf ps ρ).map (d :: ·) else none) = some ios := e
        split at e'
        · rename_i hk'
          subst hk'
          obtain ⟨ios', e1, rfl⟩ := Option.map_eq_some_iff.mp e'
          cases h with
          | io ow hio =>
            have h0 := hj 0
            rw [Nat.add_zero, hio] at h0
            cases h0
            refine .cons ow (end_ios r e1 h2 fun j => ?_)
            have := hj (j + 1)
            rw [show k' + (j + 1) = k' + 1 + j by omega] at this
            simpa using this
        · cases e'
      | un => cases e
      | sh d => cases e
      | ow d => cases e
      | ex x => cases e
end

/-- a def's IR fits its parameters and names -/
def Def.fits (d : Def) (N ps : List Str) : Bool := parsOk d.pars && decide (d.pars.length = ps.length) && decide (N.length = d.pars.length + d.more)
section
variable {P : Program} {w : World} {K : Fw} {mg : Str → Option Value} {base : Heap}
theorem spf_len {ios : List Bool} {m : Fn} {vs : List V} {H : Hp} {Q : VK} {E : XK} (h : SpF K mg ios m vs H Q E) : vs.length = ios.length := by
  obtain ⟨S, ds, as, _, ar, _⟩ := h
  exact ar.len.1
/-- a body, run -/
theorem body_ok {N ps : List Str} {d : Def} {n : Nat} {vs : List V} {H : Hp} {Q : VK} {E : XK} (hf : d.fits N ps = true) (hsp : SpF K mg (iosB d.pars) (d.run n) vs H Q E) :
    ∃ F : Frm, F.xa = none ∧ tSs ⟨K, mg, F, fun cls dd _ H' => E cls dd H'⟩ n d.body { nx := fun _ H' => Q .non H', rt := Q } (L2.start N vs) H := by
  unfold Def.fits at hf
  simp only [Bool.and_eq_true, decide_eq_true_eq] at hf
  obtain ⟨⟨hpo, hl⟩, hN⟩ := hf
  obtain ⟨S, ds, as, es, ar, nd, out, hm⟩ := hsp
  refine ⟨⟨H, S, as, none⟩, rfl, ?_⟩
  have hvl := ar.len.1
  rw [iosB, List.length_map] at hvl
  cases hst : d.start ds with
  | none =>
    have : d.run n ds = .bad := by unfold Def.run; rw [hst]
    rw [this] at hm
    exact hm.elim
  | some ρ0 =>
    have hrun : d.run n ds = (match evalSs n d.body ρ0 with
      | .next ρ' => endRet d (.sh .none) ρ'
      | .ret t ρ' => endRet d t ρ'
      | .exc x ρ' => match iosOf d.pars ρ' with
        | some ios => .exc x ios
        | none => .bad
      | _ => .bad) := by
      unfold Def.run
      rw [hst] <;> rfl
    obtain ⟨ρp, e1, rfl⟩ := Option.map_eq_some_iff.mp (show (parSl d.pars ds).map (· ++ List.replicate d.more .un) = some ρ0 from hst)
    have hrange : d.pars.filterMap id = List.range' 0 as.length := by
      have h1 : d.pars.filterMap id = List.range (d.pars.filterMap id).length := of_decide_eq_true hpo
      rw [← ar.cnt (vs := []) (ds := []), ← List.range_eq_range']
      exact h1
    have sl := start_slots (F := ⟨H, S, as, none⟩) (k := 0) ar e1 hrange (fun j => by rw [Nat.zero_add])
    have hmore : N.length - vs.length = d.more := by omega
    have c0 : Cf K ⟨H, S, as, none⟩ S (ρp ++ List.replicate d.more .un) [] (L2.start N vs) [] H (as ++ []) [] := by
      refine ⟨es, Same.refl _, fun a o h => .inl ⟨o, h⟩, fun a o h _ => h, ar.own, ?_, .nil, by simpa using nd, fun a ha => out a (by simpa using ha)⟩
      unfold L2.start
      rw [hmore]
      exact sl.app un_slots
    refine ⟨_, ⟨S, _, _, c0⟩, ?_⟩
    rw [hrun] at hm
    have aft : ∀ {ρ' : Rho} {ts : List Tm} {σ : St} {vs' : List V} {H' S' : Hp} {asl bs : List Addr} {ios : List D}, Cf K ⟨H, S, as, none⟩ S' ρ' ts σ vs' H' asl bs → iosOf d.pars ρ' = some ios → After K H S as H' S' ios := fun c e =>
      ⟨c.s0, c.sub, c.new, c.keep, end_ios c.slots e hrange fun j => by rw [Nat.zero_add]⟩
    cases er : evalSs n d.body (ρp ++ List.replicate d.more .un) with
    | next ρ' =>
      rw [er] at hm
      rintro σ H' ⟨S', asl, bs, c⟩
      unfold endRet at hm
      simp only at hm
      cases ei : iosOf d.pars ρ' with
      | none => rw [ei] at hm; exact hm.elim
      | some ios => rw [ei] at hm; exact hm _ H' S' (aft c ei) .non
    | ret t ρ' =>
      rw [er] at hm
      rintro v σ H' ⟨S', asl, bs, c⟩
      unfold endRet at hm
      simp only at hm
      cases c.tms with
      | cons h r =>
        cases h with
        | sh h =>
          simp only at hm
          cases ei : iosOf d.pars ρ' with
          | none => rw [ei] at hm; exact hm.elim
          | some ios => rw [ei] at hm; exact hm _ H' S' (aft c ei) h
        | ow h hn =>
          simp only at hm
          cases ei : iosOf d.pars ρ' with
          | none => rw [ei] at hm; exact hm.elim
          | some ios => rw [ei] at hm; exact hm _ H' S' (aft c ei) ⟨_, rfl, hn, c.out _ (by simp), h⟩
        | br h =>
          rename_i i
          simp only at hm
          split at hm
          · exact hm.elim
          · rename_i own dd ios heq
            split at heq
            · rename_i d1 ios1 hs hi
              cases heq
              obtain ⟨o, ys, k1, k2, k3⟩ := c.slots.mem hs
              rw [h] at k1
              cases k1
              cases k2 with
              | ow ow hn => exact hm _ H' S' (aft c hi) ⟨_, rfl, hn, c.out _ (List.mem_append_left _ (k3 _ (by simp))), ow⟩
            · rename_i d1 ios1 hs hi
              cases heq
              obtain ⟨o, ys, k1, k2, k3⟩ := c.slots.mem hs
              rw [h] at k1
              cases k1
              cases k2 with
              | sh r => exact hm _ H' S' (aft c hi) r
            · cases heq
          · rename_i x ios heq
            split at heq <;> cases heq
        | un => exact hm.elim
    | exc x ρ' =>
      rw [er] at hm
      rintro cls dd σ H' ⟨S', asl, bs, c, ex⟩
      simp only at hm
      cases ei : iosOf d.pars ρ' with
      | none => rw [ei] at hm; exact hm.elim
      | some ios => rw [ei] at hm; exact hm cls dd H' S' (aft c ei) ex
    | brk ρ' => rw [er] at hm; exact hm.elim
    | cnt ρ' => rw [er] at hm; exact hm.elim
    | bad => rw [er] at hm; exact hm.elim
/-- all names may be closures' -/
def dfC : Str → Bool := fun x => decide (x ≠ "")
/-- THE RULE for a def of the module -/
theorem okDef {K : PySem.W.Frag} {x qual : Str} {params : Arguments} {body : List Stmt} {scope : Scope} {dvs : List V} {kws : List (Str × V)} {f : Addr} {fd : FuncData} {N ps : List Str} {k : Nat} {d : Def} {n : Nat} (F : FunD K x qual params body scope dvs kws f fd) (S : FnScope N ps scope) (hf : d.fits N ps = true)
    (hc : chkSs N scope dfC d.body body = true) (hb : ∀ x ∈ bltNames, mg x = none) (hn : ∀ A : Around, Room k A → needSs ⟨P, w, ⟨K, w⟩, mg, base, A⟩ d.body) : FnOk P w K mg base (L2.CX P w) (k + 1) f fd ps (SpF ⟨K, w⟩ mg (iosB d.pars) (d.run n)) := by
  refine F.ok S (fun vs H Q E h => ?_) fun cdv A outer s H vs Q E hr hsp => ?_
  · have h1 := spf_len h
    unfold Def.fits at hf
    simp only [Bool.and_eq_true, decide_eq_true_eq] at hf
    rw [h1, iosB, List.length_map]
    exact hf.1.2
  · obtain ⟨Fr, hxa, q⟩ := body_ok hf hsp
    refine ⟨_, okSs (n := n) (N := N) (sc := scope) (cf := dfC) (G := ⟨⟨K, w⟩, mg, Fr, fun cls dd _ H' => E cls dd H'⟩) ⟨⟨rfl, S.nd, rfl, ?_, rfl, rfl, takes_of rfl rfl rfl rfl, hb, fun z => Bool.noConfusion z⟩, ⟨fun _ _ => rfl, fun _ => rfl, fun z => by simp [dfC] at z⟩, passes_of rfl, rfl, rfl, fun _ => hxa⟩ d.body body hc (hn _ hr), q⟩
    have := hr.un
    show (A.deeper _).units + 66 < cLine
    omega
/-- a def under its name, called with some values written -/
structure FnK (P : Program) (w : World) (K : PySem.W.Frag) (mg : Str → Option Value) (base : Heap) (f : Str) (k : Nat) (m : Fn) (ios : List Bool) (dv : List D) : Prop where
  ex : ∃ (a : Addr) (fd : FuncData) (ps : List Str) (dvs : List V) (dw : List Value), FnOk P w K mg base (L2.CX P w) k a fd ps (SpF ⟨K, w⟩ mg ios m) ∧ mg f = some (.ref a) ∧ PySem.W.keepIn K (.ref a) = true ∧ Binds K fd ps dw ∧ Vals dvs dw ∧ (∀ S, Rps ⟨K, w⟩ S dvs dv)
theorem FnK.kn {K : PySem.W.Frag} {f : Str} {k j : Nat} {m : Fn} {ios : List Bool} {dv : List D} {A : Around} (h : FnK P w K mg base f j m ios dv) (hr : Room k A) (hj : j ≤ k) : KnF ⟨P, w, ⟨K, w⟩, mg, base, A⟩ f m ios dv := by
  obtain ⟨a, fd, ps, dvs, dw, F, hm, hk, hb, hv, hr'⟩ := h.ex
  exact ⟨a, fd, ps, j, dvs, dw, F, hr.mono hj, hm, hk, hb, hv, hr', trivial⟩
/-- the law's promise -/
theorem ints_rps' {S : Hp} : ∀ ns : List Int, Rps K S (ns.map V.int) (ns.map .int)
  | [] => .nil
  | _ :: ns => .cons (.int _) (ints_rps' ns)
theorem sp_law {m : Fn} {H : Hp} {a : Addr} {ns : List Int} (h : SqL K H a (ns.map V.int)) (hm : ∃ o, m [.list (ns.map .int)] = .ok o (.bool true) []) : SpF K mg [false] m [.ref a] H (fun v _ => v = .bl true) fun _ _ _ => False := by
  obtain ⟨o, hm⟩ := hm
  refine ⟨H, _, [], Same.refl _, .val (.lst h (ints_rps' ns)) .nil, List.nodup_nil, fun a ha => by simp at ha, ?_⟩
  rw [hm]
  intro v H' S' aft r
  cases o with
  | true =>
    obtain ⟨p, rfl, _, _, ow⟩ := r
    cases ow
  | false => exact Rp.bl_of r
end
end Ev

-- EvH
/-! EvH: the head by facts: defs by name, constants as data. -/
namespace Ev
open PySem L2 He

/-! ### constants of the module as data -/
mutual
def valB (K : PySem.W.Frag) : D → Value → Bool
  | .none, u => (match u with | .none => true | _ => false)
  | .bool b, u => (match u with | .bool c => b == c | _ => false)
  | .int i, u => (match u with | .int j _ => decide (i = j) | _ => false)
  | .str x, u => (match u with | .str y _ => decide (x = y) | _ => false)
  | .tuple ds, u => (match u with
    | .ref a => (match K.lookup a with
      | some ⟨.type c, _, .seq its _, _⟩ => decide (c = "tuple") && (decide (its.size ≤ sizeLine) && valsB K ds its.toList)
      | _ => false)
    | _ => false)
  | .list ds, u => (match u with
    | .ref a => (match K.lookup a with
      | some ⟨.type c, none, .seq its _, _⟩ => decide (c = "list") && (decide (its.size ≤ sizeLine) && valsB K ds its.toList)
      | _ => false)
    | _ => false)
  | .dict _, _ => false
def valsB (K : PySem.W.Frag) : List D → List Value → Bool
  | [], [] => true
  | d :: ds, u :: us => valB K d u && valsB K ds us
  | _, _ => false
end
mutual
theorem valB_ok {K : PySem.W.Frag} {w : World} : ∀ (d : D) (u : Value), valB K d u = true → ∃ v, RelV v u ∧ ∀ S, Rp ⟨K, w⟩ S v d
  | .none, u, h => by
    unfold valB at h
    cases u with
    | none => exact ⟨.non, rfl, fun _ => .non⟩
    | _ => cases h
  | .bool b, u, h => by
    unfold valB at h
    cases u with
    | bool c =>
      have e : b = c := eq_of_beq h
      subst e
      exact ⟨.bl b, rfl, fun _ => .bl b⟩
    | _ => cases h
  | .int i, u, h => by
    unfold valB at h
    cases u with
    | int j t =>
      have e : i = j := of_decide_eq_true h
      subst e
      exact ⟨.int i, ⟨t, rfl⟩, fun _ => .int i⟩
    | _ => cases h
  | .str i, u, h => by
    unfold valB at h
    cases u with
    | str j t =>
      have e : i = j := of_decide_eq_true h
      subst e
      exact ⟨.str i, ⟨t, rfl⟩, fun _ => .str i⟩
    | _ => cases h
  | .tuple ds, u, h => by
    unfold valB at h
    cases u with
    | ref a =>
      simp only at h
      cases q : K.lookup a with
      | none => rw [q] at h; cases h
      | some o =>
        obtain ⟨oc, od, dt, osl⟩ := o
        rw [q] at h
        cases oc with
        | type c =>
          cases dt with
          | seq its n =>
            simp only [Bool.and_eq_true, decide_eq_true_eq] at h
            obtain ⟨h1, h2, h3⟩ := h
            obtain ⟨vs, r, hr⟩ := valsB_ok ds its.toList h3
            exact ⟨.ref a, rfl, fun S => .tup (.inr ⟨_, its, n, q, congrArg Value.type h1, rfl, h2, r⟩) (hr S)⟩
          | _ => cases h
        | _ => cases dt <;> cases h
    | _ => cases h
  | .list ds, u, h => by
    unfold valB at h
    cases u with
    | ref a =>
      simp only at h
      cases q : K.lookup a with
      | none => rw [q] at h; cases h
      | some o =>
        obtain ⟨oc, od, dt, osl⟩ := o
        rw [q] at h
        cases oc with
        | type c =>
          cases od with
          | none =>
            cases dt with
            | seq its n =>
              simp only [Bool.and_eq_true, decide_eq_true_eq] at h
              obtain ⟨h1, h2, h3⟩ := h
              obtain ⟨vs, r, hr⟩ := valsB_ok ds its.toList h3
              exact ⟨.ref a, rfl, fun S => .lst (.inr ⟨_, its, n, q, congrArg Value.type h1, rfl, rfl, h2, r⟩) (hr S)⟩
            | _ => cases h
          | some b => cases dt <;> cases h
        | _ => cases od <;> cases dt <;> cases h
    | _ => cases h
  | .dict _, u, h => by unfold valB at h; cases h
theorem valsB_ok {K : PySem.W.Frag} {w : World} : ∀ (ds : List D) (us : List Value), valsB K ds us = true → ∃ vs, Vals vs us ∧ ∀ S, Rps ⟨K, w⟩ S vs ds
  | [], [], _ => ⟨[], .nil, fun _ => .nil⟩
  | d :: ds, u :: us, h => by
    unfold valsB at h
    rw [Bool.and_eq_true] at h
    obtain ⟨v, r, hr⟩ := valB_ok d u h.1
    obtain ⟨vs, r2, hr2⟩ := valsB_ok ds us h.2
    exact ⟨v :: vs, .cons r r2, fun S => .cons (hr S) (hr2 S)⟩
  | [], _ :: _, h => by unfold valsB at h; cases h
  | _ :: _, [], h => by unfold valsB at h; cases h
end
def gvB (K : PySem.W.Frag) (p : Str × D) : Bool := match PySem.W.nsIn K mainGlobals p.1 with
  | some (some u) => valB K p.2 u
  | _ => false
theorem gvB_ok {K : PySem.W.Frag} {w : World} {h : Heap} {mg : Str → Option Value} (X : K.In h) (G : h.Ns mainGlobals mg) {x : Str} {d : D} (c : gvB K (x, d) = true) : GvOk ⟨K, w⟩ mg x d := by
  unfold gvB at c
  simp only at c
  split at c
  · rename_i u e
    obtain ⟨v, r, hr⟩ := valB_ok d u c
    exact ⟨u, v, PySem.W.mg_of X G e, r, hr⟩
  · cases c

/-! ### facts about exceptions -/
inductive Fx where
  | gv (x : Str) (d : D)
  /-- except c: takes instances of x or not; isinstance(.., c) likewise -/
  | xm (x c : Str) (b : Bool)
  /-- isinstance of x's instances may be asked -/
  | xc (x : Str)
  /-- x's own __init__ sets the field f, b's __init__ is ValueError's -/
  | ini (x f b : Str)
/-- the class c as a value -/
def clsVal (K : PySem.W.Frag) (c : Str) : Value := if c = "ValueError" then .type "ValueError" else .ref (ga K c)
def excCB (K : PySem.W.Frag) (C : Addr) : Bool := xfB K C && (decide (PySem.W.findIn K (.ref C) "__class__" = some (some (.builtin "object.__class__"))) && (decide (PySem.W.specialIn K (.builtin "object.__class__") "__get__" = some (some (.builtin "getset_descriptor.__get__"))) &&
  (decide (PySem.W.takesIn K (.builtin "object.__class__") = some true) && decide (PySem.W.mroIn K C (.type "object") = some true))))
theorem excCB_ok {K : PySem.W.Frag} {C : Addr} (h : excCB K C = true) : ExcC K C := by
  unfold excCB at h
  simp only [Bool.and_eq_true, decide_eq_true_eq] at h
  obtain ⟨h0, h1, h2, h3, h4⟩ := h
  have T := xfB_ok h0
  exact ⟨T.ga, T.gg, T.exC, T.hdC, h1, h2, h3, h4⟩
/-- the class's object, as OexC wants it -/
def oexB (K : PySem.W.Frag) (C : Addr) : Bool := match K.lookup C with
  | some ⟨.type "type", _, .cls cd, sl⟩ => (match cd.mro, sl.toList with
    | .ref C' :: bm, [_, _, _, _, some (.builtin n), _] => C' == C && n == "ValueError.__new__" && !cd.hasDel && cd.hasDict && PySem.HandSPX.refsVE bm
    | _, _ => false)
  | _ => false
theorem oexB_ok {K : PySem.W.Frag} {C : Addr} (h : oexB K C = true) : ∃ nm q N bs bm sn sub ab col dd k0 k1 k2 k3 k5, K.lookup C = some (PySem.excClassObj nm q C N bs bm true sn sub ab col dd k0 k1 k2 k3 k5 "ValueError.__new__") ∧ PySem.HandSPX.refsVE bm = true := by
  unfold oexB at h
  split at h
  · rename_i dd cd sl ho
    split at h
    · rename_i C' bm k0 k1 k2 k3 n k5 hm hs
      simp only [Bool.and_eq_true, beq_iff_eq, Bool.not_eq_true'] at h
      obtain ⟨⟨⟨⟨rfl, rfl⟩, hdel⟩, hdi⟩, ht⟩ := h
      obtain ⟨nm, bs, mro, ns, qn, hd, sn, sub, ab, col, del⟩ := cd
      dsimp only at hm hdel hdi
      subst hm hdel hdi
      have hsl : sl = #[k0, k1, k2, k3, some (.builtin "ValueError.__new__"), k5] := by
        obtain ⟨l⟩ := sl
        dsimp only at hs
        rw [hs]
      subst hsl
      exact ⟨_, _, _, _, bm, _, _, _, _, _, _, _, _, _, _, ho, ht⟩
    · cases h
  · cases h
def iniB (K : PySem.W.Frag) (C B : Addr) (f : Str) : Bool := oexB K C && (eqO (PySem.W.findIn K (.ref C) "__setattr__") (some (some (.builtin "object.__setattr__"))) && (decide (PySem.W.subIn K (.ref C) (.type "BaseException") = some true) && (decide (PySem.W.typeIn K (.ref C) = some (.type "type")) &&
  (PySem.W.keepIn K (.ref C) && (eqO (PySem.W.findIn K (.ref C) "__init__") (some (some (.ref (ma K C "__init__")))) && (decide (PySem.W.typeIn K (.ref (ma K C "__init__")) = some (.type "function")) && (eqO (PySem.W.findIn K (.ref C) f) (some none) &&
  (PySem.W.readsIn K B (.type "type") && (eqO (PySem.W.specialIn K (.ref B) "__getattribute__") (some (some (.builtin "type.__getattribute__"))) &&
  (match PySem.W.findCls K (.ref B) (.type "type") "__init__" with | some (.val (.builtin n)) => n == "ValueError.__init__" | _ => false))))))))))
theorem iniB_ok {K : PySem.W.Frag} {C B : Addr} {f : Str} (h : iniB K C B f = true) : OexC K C ∧ PySem.W.findIn K (.ref C) "__init__" = some (some (.ref (ma K C "__init__"))) ∧ PySem.W.typeIn K (.ref (ma K C "__init__")) = some (.type "function") ∧ PySem.W.findIn K (.ref C) f = some none ∧ BaseC K B := by
  unfold iniB at h
  simp only [Bool.and_eq_true, decide_eq_true_eq] at h
  obtain ⟨h1, h2, h3, h4, h5, h6, h7, h8, h9, h10, h11⟩ := h
  refine ⟨⟨oexB_ok h1, eqO_ok h2, h3, h4, h5⟩, eqO_ok h6, h7, eqO_ok h8, h9, eqO_ok h10, ?_⟩
  split at h11
  · rename_i n e
    rw [e, eq_of_beq h11]
  · cases h11
def Fx.ok (K : PySem.W.Frag) : Fx → Bool
  | .gv x d => gvB K (x, d)
  | .xm x c b => decide (PySem.W.exmOne K (.ref (ga K x)) (clsVal K c) = some b) && decide (PySem.W.kitOne K (.ref (ga K x)) (clsVal K c) = some b)
  | .xc x => excCB K (ga K x)
  | .ini x f b => iniB K (ga K x) (ga K b) f
/-! ### the Hook: defs, facts, constants -/
abbrev AlV : Type := AlD × Bool
def obsV (n : Nat) (fa : List Fa) (fn : List DefD) (gs : List Fx) (g : Addr → Option Obj) : AlV := (obsD fa fn (frG g (cStatics :: asD g n)), gs.all (Fx.ok (frG g (cStatics :: asD g n))))
def hookV (n : Nat) (fa : List Fa) (fn : List DefD) (gs : List Fx) : PySem.W.Hook where
  α := AlV
  obs := fun s => obsV n fa fn gs s.heap.get?
  val := fun _ => (valD fn, true)
  says := fun _ h => ∃ K : PySem.W.Frag, K.In h ∧ SaysD fa fn K ∧ gs.all (Fx.ok K) = true
  of := fun _ _ e => ⟨_, frG_in, congrArg (fun z : AlV => z.1) e, congrArg (fun z : AlV => z.2) e⟩
  keeps := fun _ _ _ ⟨K, hK, c⟩ k => ⟨K, PySem.W.Frag.In.keeps hK k, c⟩
theorem obsV_eq {n : Nat} {fa : List Fa} {fn : List DefD} {gs : List Fx} {g : Addr → Option Obj} {s : Shared} (h : ∀ a, g a = s.heap.get? a) : obsV n fa fn gs g = (hookV n fa fn gs).obs s := by
  have e : g = s.heap.get? := funext h
  rw [e] <;> rfl
/-- what the head tells -/
structure Told (fa : List Fa) (fn : List DefD) (gs : List Fx) (K : PySem.W.Frag) (h : Heap) (mg : Str → Option Value) : Prop where
  X : K.In h
  G : h.Ns mainGlobals mg
  c : SaysD fa fn K
  v : gs.all (Fx.ok K) = true
section
variable {fa : List Fa} {fn : List DefD} {gs : List Fx} {K : PySem.W.Frag} {h : Heap} {mg : Str → Option Value}
theorem Told.gv {w : World} (t : Told fa fn gs K h mg) (i : Nat) {x : Str} {d : D} (e : gs[i]? = some (.gv x d) := by rfl) : GvOk ⟨K, w⟩ mg x d := gvB_ok t.X t.G (List.all_eq_true.mp t.v _ (List.mem_of_getElem? e))
theorem Told.glo (t : Told fa fn gs K h mg) (i : Nat) {x : Str} (e : fa[i]? = some (.glo x) := by rfl) : mg x = some (.ref (ga K x)) := glo_ok t.X t.G (t.c.fact i e)
theorem Told.free (t : Told fa fn gs K h mg) (i : Nat) {x : Str} (e : fa[i]? = some (.free x) := by rfl) : mg x = none := free_ok t.X t.G (t.c.fact i e)
theorem Told.rai (t : Told fa fn gs K h mg) (i j : Nat) {x : Str} (e : fa[i]? = some (.glo x) := by rfl) (e2 : fa[j]? = some (.exc x) := by rfl) : RaiN K mg x := by
  obtain ⟨h1, h2, h3, h4⟩ := exc_ok (t.c.fact j e2)
  exact ⟨_, t.glo i e, h1, h2, h3, h4⟩
theorem Told.def_ (t : Told fa fn gs K h mg) (i : Nat) {d : DefD} (e : fn[i]? = some d := by rfl) : ∃ fd, FunD K d.name d.qual d.params d.body d.scope (d.dvs K) (d.kws K) (fAd K d.at_) fd := t.c.def_ i e
theorem Told.fx (t : Told fa fn gs K h mg) {y : Fx} (i : Nat) (e : gs[i]? = some y := by rfl) : y.ok K = true := List.all_eq_true.mp t.v _ (List.mem_of_getElem? e)
theorem Told.fxm (t : Told fa fn gs K h mg) {y : Fx} (e : y ∈ gs) : y.ok K = true := List.all_eq_true.mp t.v _ e
/-- the built-in names are free: they stand first among the facts -/
theorem Told.blt (t : Told fa fn gs K h mg) (e : fa.take bltNames.length = bltNames.map .free) : ∀ x ∈ bltNames, mg x = none := fun x hx => by
  have hm : Fa.free x ∈ fa := List.mem_of_mem_take (i := bltNames.length) (by rw [e]; exact List.mem_map.mpr ⟨x, hx, rfl⟩)
  exact free_ok t.X t.G (let ⟨i, hi⟩ := List.getElem?_of_mem hm; t.c.fact i hi)
end
theorem _root_.L2.FunD.same {K : PySem.W.Frag} {x qual x' qual' : Str} {params params' : Arguments} {body body' : List Stmt} {scope scope' : Scope} {dvs dvs' : List V} {kws kws' : List (Str × V)} {f : Addr} {fd fd' : FuncData}
    (F : FunD K x qual params body scope dvs kws f fd) (F' : FunD K x' qual' params' body' scope' dvs' kws' f fd') : fd = fd' := by
  obtain ⟨_, _, _, _, _, _, _, _, _, _, _, l, _⟩ := F.ex
  obtain ⟨_, _, _, _, _, _, _, _, _, _, _, l', _⟩ := F'.ex
  rw [l] at l'
  cases l'
  rfl
/-- a law: as the library's walk_ofE, for what may hang on the world -/
theorem walk_ofV {l : PySem.W.OpenLaw} {n k : Nat} {q : Program} {loose : List Str} {XP : (Str → Option Value) → Heap → Prop} {YP : World → Heap → Prop} {d : DefRec} {CX : World → CXT} {x : Str}
    (hn : l.most = some n) (hn2 : n ≤ sizeLine) (hdf : d.params.defaults = []) (hr : Room k callerA)
    (F : ∀ (w : World) (mg : Str → Option Value) (fa : Addr) (h : Heap), YP w h → h.Ns mainGlobals mg → mg d.name = some (.ref fa) →
      ∃ (K : PySem.W.Frag) (fd : FuncData) (sp : Sp), K.In h ∧ (∀ (s : Shared) (u : Value), BindsTo s fd ⟨[u], []⟩ [(x, u)]) ∧
        (∀ (H : Hp) (a : Addr) (ns : List Int), ns.length ≤ n → Only H → SqL K H a (ns.map V.int) → sp [.ref a] H (fun v _ => v = .bl true) fun _ _ _ => False) ∧
        ∀ base : Heap, K.In base → base.Ns mainGlobals mg → FnOk l.prog w K mg base (CX w) k fa fd [x] sp)
    (hCX : ∀ (w : World) (H : Hp) (s : Shared) (e : Value) (s' : Shared), CX w [] H s (fun _ _ _ => False) e s' → False) :
    PySem.W.WalkO q loose XP YP l.row.toRowW d [] (fun f vs => PySem.call f vs) := by
  refine Att.attach_call hn hdf fun w s₀ s₁ mg mb fa o pm cd doc a vs ns G Y ho hd hcd hmg hobj hints hlen hg => ?_
  obtain ⟨K, fd, sp, KX, hb, hsp, hF⟩ := F w mg fa _ Y G.T.g hmg
  exact law_call KX G.T.g G.T.b G.T.builtins G.T.nolimit hg hobj hints (Nat.le_trans hlen hn2) hr hF hb (fun H hO hS => hsp H a ns hlen hO hS) fun H e s' => hCX w H s₁ e s'
theorem noCX {P : Program} {w : World} {H : Hp} {s : Shared} {e : Value} {s' : Shared} (h : L2.CX P w [] H s (fun _ _ _ => False) e s') : False := by
  obtain ⟨_, _, _, _, _, _, _, _, _, _, _, _, z⟩ := h
  exact z
/-! ### exceptions: what a def's proof needs -/
/-- a method's text -/
def clsFn (s : Stmt) (m : Str) : Stmt := match s with
  | .ClassDef _ _ _ b _ _ _ _ _ _ _ => (b.find? fun z => match z with | .FunctionDef n _ _ _ _ _ _ _ _ _ => decide (n = m) | _ => false).getD (.Pass ⟨0, 0, 0, 0⟩)
  | _ => .Pass ⟨0, 0, 0, 0⟩
def isGlo (fa : List Fa) (x : Str) : Bool := fa.any fun z => match z with | .glo y => decide (y = x) | _ => false
def lookXm (gs : List Fx) (x c : Str) : Option Bool := gs.findSome? fun z => match z with | .xm a b k => if a = x ∧ b = c then some k else none | _ => none
def isXc (gs : List Fx) (x : Str) : Bool := gs.any fun z => match z with | .xc y => decide (y = x) | _ => false
def isIni (gs : List Fx) (x f : Str) : Bool := gs.any fun z => match z with | .ini y g _ => decide (y = x) && decide (g = f) | _ => false
def clsKnown (fa : List Fa) (c : Str) : Bool := decide (c = "ValueError") || isGlo fa c
section
variable {fa : List Fa} {fn : List DefD} {gs : List Fx} {K : PySem.W.Frag} {h : Heap} {mg : Str → Option Value}
theorem Told.globA (t : Told fa fn gs K h mg) {x : Str} (e : isGlo fa x = true) : mg x = some (.ref (ga K x)) := by
  obtain ⟨z, hz, hp⟩ := List.any_eq_true.mp e
  split at hp
  · rename_i y
    have e := of_decide_eq_true hp
    subst e
    obtain ⟨i, hi⟩ := List.getElem?_of_mem hz
    exact t.glo i hi
  · cases hp
theorem Told.clsV (t : Told fa fn gs K h mg) (hb : ∀ x ∈ bltNames, mg x = none) {c : Str} (e : clsKnown fa c = true) : ∃ v, ClsV mg c v (clsVal K c) := by
  unfold clsVal
  by_cases h : c = "ValueError"
  · subst h
    exact ⟨_, .inr ⟨hb _ (by decide), rfl, rfl, if_pos rfl⟩⟩
  · unfold clsKnown at e
    simp only [Bool.or_eq_true, decide_eq_true_eq] at e
    rcases e with e | e
    · exact absurd e h
    · exact ⟨_, .inl ⟨ga K c, t.globA e, rfl, if_neg h⟩⟩
theorem Told.xm (t : Told fa fn gs K h mg) {x c : Str} {b : Bool} (e : lookXm gs x c = some b) : PySem.W.exmOne K (.ref (ga K x)) (clsVal K c) = some b ∧ PySem.W.kitOne K (.ref (ga K x)) (clsVal K c) = some b := by
  obtain ⟨z, hz, hp⟩ := List.exists_of_findSome?_eq_some e
  split at hp
  · rename_i a b' k
    split at hp
    · rename_i hq
      obtain ⟨rfl, rfl⟩ := hq
      cases hp
      have q := t.fxm hz
      unfold Fx.ok at q
      simp only [Bool.and_eq_true, decide_eq_true_eq] at q
      exact q
    · cases hp
  · cases hp
theorem Told.xc (t : Told fa fn gs K h mg) {x : Str} (e : isXc gs x = true) : ExcC K (ga K x) := by
  obtain ⟨z, hz, hp⟩ := List.any_eq_true.mp e
  split at hp
  · have e := of_decide_eq_true hp
    subst e
    have q := t.fxm hz
    unfold Fx.ok at q
    exact excCB_ok q
  · cases hp
theorem Told.xmN (t : Told fa fn gs K h mg) (hb : ∀ x ∈ bltNames, mg x = none) {c : Str} {tb : List (Str × Bool)} (e : (clsKnown fa c && tb.all fun p => isGlo fa p.1 && (lookXm gs p.1 c == some p.2)) = true) : XmN K mg c tb := by
  rw [Bool.and_eq_true] at e
  obtain ⟨v, hv⟩ := t.clsV hb e.1
  refine ⟨v, _, hv, fun p hp => ?_⟩
  have q := List.all_eq_true.mp e.2 p hp
  rw [Bool.and_eq_true, beq_iff_eq] at q
  exact ⟨_, t.globA q.1, (t.xm q.2).1⟩
theorem Told.xkN (t : Told fa fn gs K h mg) (hb : ∀ x ∈ bltNames, mg x = none) {c : Str} {tb : List (Str × Bool)} (e : (clsKnown fa c && tb.all fun p => isGlo fa p.1 && isXc gs p.1 && (lookXm gs p.1 c == some p.2)) = true) : XkN K mg c tb := by
  rw [Bool.and_eq_true] at e
  obtain ⟨v, hv⟩ := t.clsV hb e.1
  refine ⟨v, _, hv, fun p hp => ?_⟩
  have q := List.all_eq_true.mp e.2 p hp
  rw [Bool.and_eq_true, Bool.and_eq_true, beq_iff_eq] at q
  exact ⟨_, t.globA q.1.1, t.xc q.1.2, (t.xm q.2).2⟩
/-- one of the answers -/
def anyKit (gs : List Fx) (x : Str) : List Str → Option Bool
  | [] => some false
  | c :: cs => match lookXm gs x c with
    | some true => some true
    | some false => anyKit gs x cs
    | none => none
theorem Told.kitAny (t : Told fa fn gs K h mg) {x : Str} : ∀ {cs : List Str} {b : Bool}, anyKit gs x cs = some b → PySem.W.kitAny K (.ref (ga K x)) (cs.map (clsVal K)) = some b
  | [], b, e => e
  | c :: cs, b, e => by
    unfold anyKit at e
    show PySem.W.kitAny K _ (clsVal K c :: cs.map (clsVal K)) = _
    unfold PySem.W.kitAny
    split at e
    · rename_i q
      rw [(t.xm q).2]
      exact e
    · rename_i q
      rw [(t.xm q).2]
      exact t.kitAny e
    · cases e
theorem Told.clsVs (t : Told fa fn gs K h mg) (hb : ∀ x ∈ bltNames, mg x = none) : ∀ {cs : List Str}, cs.all (clsKnown fa) = true → ∃ vs, ClsVs mg cs vs (cs.map (clsVal K))
  | [], _ => ⟨[], .nil⟩
  | c :: cs, e => by
    rw [List.all_cons, Bool.and_eq_true] at e
    obtain ⟨v, hv⟩ := t.clsV hb e.1
    obtain ⟨vs, hvs⟩ := t.clsVs hb e.2
    exact ⟨v :: vs, .cons hv hvs⟩
theorem Told.xkT (t : Told fa fn gs K h mg) (hb : ∀ x ∈ bltNames, mg x = none) {cs : List Str} {tb : List (Str × Bool)} (e : (cs.all (clsKnown fa) && tb.all fun p => isGlo fa p.1 && isXc gs p.1 && (anyKit gs p.1 cs == some p.2)) = true) : XkT K mg cs tb := by
  rw [Bool.and_eq_true] at e
  obtain ⟨vs, hv⟩ := t.clsVs hb e.1
  refine ⟨vs, _, hv, fun p hp => ?_⟩
  have q := List.all_eq_true.mp e.2 p hp
  rw [Bool.and_eq_true, Bool.and_eq_true, beq_iff_eq] at q
  exact ⟨_, t.globA q.1.1, t.xc q.1.2, t.kitAny q.2⟩
theorem Told.plN (t : Told fa fn gs K h mg) {f : Str} {cs : List Str} (e : (cs.all fun c => isGlo fa c && isXc gs c && isIni gs c f) = true) : PlN K mg f cs := fun c hc => by
  have q := List.all_eq_true.mp e c hc
  rw [Bool.and_eq_true, Bool.and_eq_true] at q
  have T := t.xc q.1.2
  refine ⟨_, t.globA q.1.1, ⟨T.hg, T.hk, T.hs, T.hd⟩, ?_⟩
  obtain ⟨z, hz, hp⟩ := List.any_eq_true.mp q.2
  split at hp
  · rw [Bool.and_eq_true, decide_eq_true_eq, decide_eq_true_eq] at hp
    obtain ⟨rfl, rfl⟩ := hp
    have y := t.fxm hz
    unfold Fx.ok at y
    exact (iniB_ok y).2.2.2.1
  · cases hp
/-- an exception with one field may be made -/
def IniF (P : Program) (w : World) (K : PySem.W.Frag) (mg : Str → Option Value) (base : Heap) (c f : Str) (k : Nat) : Prop := ∃ (C fI : Addr) (fd : FuncData) (ps : List Str), mg c = some (.ref C) ∧ OexC K C ∧ PySem.W.findIn K (.ref C) "__init__" = some (some (.ref fI)) ∧ PySem.W.typeIn K (.ref fI) = some (.type "function") ∧
  FnOk P w K mg base (L2.CX P w) k fI fd ps (spIn C f) ∧ Binds K fd ps []
theorem IniF.rai {P : Program} {w : World} {base : Heap} {c f : Str} {k k' : Nat} {A : Around} (i : IniF P w K mg base c f k) (hr : Room k' A) (hk : k + 1 ≤ k') : RaiI ⟨P, w, ⟨K, w⟩, mg, base, A⟩ c f := by
  obtain ⟨C, fI, fd, ps, h1, h2, h3, h4, h5, h6⟩ := i
  exact ⟨C, fI, k, fd, ps, h1, h2, h3, h4, h5, hr.mono hk, h6⟩
theorem Told.ini (t : Told fa fn gs K h mg) {P : Program} {w : World} {base : Heap} (i j l m : Nat) {c f b : Str} {d : DefD} {ps : List Str} (e1 : fa[i]? = some (.glo c)) (e2 : fa[j]? = some (.glo b)) (e3 : fn[l]? = some d) (e4 : gs[m]? = some (.ini c f b)) (ha : d.at_ = (c, some ("__init__" : Str)))
    (hS : FnScope ps ps d.scope) (hc : initOk d.scope ps b f d.body = true) (hb : ∀ fd, FunD K d.name d.qual d.params d.body d.scope (d.dvs K) (d.kws K) (fAd K d.at_) fd → Binds K fd ps []) : IniF P w K mg base c f 1 := by
  obtain ⟨fd, F⟩ := t.def_ l e3
  have q := t.fx m e4
  unfold Fx.ok at q
  obtain ⟨q1, q2, q3, q4, q5⟩ := iniB_ok q
  have ea : fAd K d.at_ = ma K (ga K c) "__init__" := by rw [ha]; rfl
  rw [← ea] at q2 q3
  exact ⟨ga K c, _, fd, ps, t.glo i e1, q1, q2, q3, init_fn F hS hc (t.glo j e2) q5 q1 q4, hb fd F⟩
end
end Ev

-- EvX
/-! EvX: the evaluator, unfolded by simp. -/
namespace Ev
open PySem L2
noncomputable section

theorem run_eq (f : Def) (n : Nat) (ds : List D) : f.run n ds = match f.start ds with
  | none => .bad
  | some ρ => match evalSs n f.body ρ with
    | .next ρ' => endRet f (.sh .none) ρ'
    | .ret t ρ' => endRet f t ρ'
    | .exc x ρ' => match iosOf f.pars ρ' with
      | some ios => .exc x ios
      | none => .bad
    | _ => .bad := rfl
theorem eqD_int' (i j : Int) : eqD (.int i) (.int j) = some (decide (i = j)) := by
  show (if SeqAt.shaped (.int i) && SeqAt.shaped (.int j) then some (PyData.eqv (.int i) (.int j)) else lenD (.int i) (.int j)) = _
  rfl
/-- not a rule by definition: the kernel is not to unfold it at casts -/
theorem eqD_int (i j : Int) : eqD (.int i) (.int j) = some (decide (i = j)) := (eqD_int' i j).trans (Eq.trans (eqD_int' i j).symm (eqD_int' i j))
theorem eqD_str (x y : Str) : eqD (.str x) (.str y) = some (x == y) := rfl
section
variable {α β : Type}
theorem bind_congr' {r r' : Res α} {f : α → Rho → Res β} (h : r = r') : r.bind f = r'.bind f := by rw [h]
theorem out_congr' {r r' : Res α} {f : α → Rho → Out} (h : r = r') : r.out f = r'.out f := by rw [h]
theorem seq_congr' {o o' : Out} {f : Rho → Out} (h : o = o') : o.seq f = o'.seq f := by rw [h]
theorem bind_ok' {a : α} {ρ : Rho} {f : α → Rho → Res β} : (Res.ok a ρ).bind f = f a ρ := rfl
theorem bind_bad' {f : α → Rho → Res β} : (Res.bad : Res α).bind f = .bad := rfl
theorem bind_exc' {x : Ex} {ρ : Rho} {f : α → Rho → Res β} : (Res.exc x ρ : Res α).bind f = .exc x ρ := rfl
theorem bind_ite {c : Prop} [Decidable c] {r r' : Res α} {f : α → Rho → Res β} : (if c then r else r').bind f = if c then r.bind f else r'.bind f := by split <;> rfl
theorem out_ok' {a : α} {ρ : Rho} {f : α → Rho → Out} : (Res.ok a ρ).out f = f a ρ := rfl
theorem out_bad' {f : α → Rho → Out} : (Res.bad : Res α).out f = .bad := rfl
theorem out_exc' {x : Ex} {ρ : Rho} {f : α → Rho → Out} : (Res.exc x ρ : Res α).out f = .exc x ρ := rfl
theorem out_ite {c : Prop} [Decidable c] {r r' : Res α} {f : α → Rho → Out} : (if c then r else r').out f = if c then r.out f else r'.out f := by split <;> rfl
theorem seq_next {ρ : Rho} {f : Rho → Out} : (Out.next ρ).seq f = f ρ := rfl
theorem seq_ret {t : Tm} {ρ : Rho} {f : Rho → Out} : (Out.ret t ρ).seq f = .ret t ρ := rfl
theorem seq_brk {ρ : Rho} {f : Rho → Out} : (Out.brk ρ).seq f = .brk ρ := rfl
theorem seq_cnt {ρ : Rho} {f : Rho → Out} : (Out.cnt ρ).seq f = .cnt ρ := rfl
theorem seq_exc {x : Ex} {ρ : Rho} {f : Rho → Out} : (Out.exc x ρ).seq f = .exc x ρ := rfl
theorem seq_bad {f : Rho → Out} : Out.bad.seq f = .bad := rfl
theorem seq_ite {c : Prop} [Decidable c] {r r' : Out} {f : Rho → Out} : (if c then r else r').seq f = if c then r.seq f else r'.seq f := by split <;> rfl
/-- what a def gives, from what its body gives -/
def fin (f : Def) : Out → FRes
  | .next ρ' => endRet f (.sh .none) ρ'
  | .ret t ρ' => endRet f t ρ'
  | .exc x ρ' => match iosOf f.pars ρ' with
    | some ios => .exc x ios
    | none => .bad
  | _ => .bad
theorem fin_next {f : Def} {ρ : Rho} : fin f (.next ρ) = endRet f (.sh .none) ρ := rfl
theorem fin_ret {f : Def} {t : Tm} {ρ : Rho} : fin f (.ret t ρ) = endRet f t ρ := rfl
theorem fin_bad {f : Def} : fin f .bad = .bad := rfl
theorem fin_exc {f : Def} {x : Ex} {ρ : Rho} : fin f (.exc x ρ) = match iosOf f.pars ρ with | some ios => .exc x ios | none => .bad := rfl
theorem fin_ite {c : Prop} [Decidable c] {r r' : Out} {f : Def} : fin f (if c then r else r') = if c then fin f r else fin f r' := by split <;> rfl
end
theorem run_fin (f : Def) (n : Nat) (ds : List D) : f.run n ds = match f.start ds with
  | none => .bad
  | some ρ => fin f (evalSs n f.body ρ) := rfl
theorem op2b_def {α : Type} (f : D → D → Option Bool) (t u : Tm) (ρ : Rho) (g : Bool → Res α) : op2b f t u ρ g = match t.get ρ, u.get ρ with
  | some a, some b => match f a b with
    | some k => g k
    | none => .bad
  | _, _ => .bad := rfl
theorem lcT_def (ws : List Nat) (tg : Tg) (ec : Rho → Res Bool) (ee : Rho → Res Tm) (d : D) (ρ : Rho) : lcT ws tg ec ee d ρ = (onTg (asgTg tg d (clr ρ ws))).bind fun _ ρ3 => (ec ρ3).bind fun k ρ4 => if k then (ee ρ4).bind fun t ρ5 => (take t ρ5).bind fun x ρ6 => .ok (some x) ρ6 else .ok none ρ4 := rfl
/-- a slot that is empty or shared -/
def _root_.Ev.Sl.opt : Option D → Sl
  | none => .un
  | some d => .sh d

theorem sm {n : Nat} (h : n ≤ 16777216 := by omega) : Sm n := h
theorem w_group_group : (("group" : Str) == ("group" : Str)) = true := by decide +kernel
theorem w_group_single : (("group" : Str) == ("single" : Str)) = false := by decide +kernel
theorem w_group_part : (("group" : Str) == ("part" : Str)) = false := by decide +kernel
theorem w_group_go : (("group" : Str) == ("go" : Str)) = false := by decide +kernel
theorem w_single_group : (("single" : Str) == ("group" : Str)) = false := by decide +kernel
theorem w_single_single : (("single" : Str) == ("single" : Str)) = true := by decide +kernel
theorem w_single_part : (("single" : Str) == ("part" : Str)) = false := by decide +kernel
theorem w_single_go : (("single" : Str) == ("go" : Str)) = false := by decide +kernel
theorem w_part_group : (("part" : Str) == ("group" : Str)) = false := by decide +kernel
theorem w_part_single : (("part" : Str) == ("single" : Str)) = false := by decide +kernel
theorem w_part_part : (("part" : Str) == ("part" : Str)) = true := by decide +kernel
theorem w_part_go : (("part" : Str) == ("go" : Str)) = false := by decide +kernel
theorem w_go_group : (("go" : Str) == ("group" : Str)) = false := by decide +kernel
theorem w_go_single : (("go" : Str) == ("single" : Str)) = false := by decide +kernel
theorem w_go_part : (("go" : Str) == ("part" : Str)) = false := by decide +kernel
theorem w_go_go : (("go" : Str) == ("go" : Str)) = true := by decide +kernel
theorem sm0 : Sm 0 = True := eq_true (by unfold Sm; omega)
theorem sm1 : Sm 1 = True := eq_true (by unfold Sm; omega)
theorem sm2 : Sm 2 = True := eq_true (by unfold Sm; omega)
theorem sm3 : Sm 3 = True := eq_true (by unfold Sm; omega)
theorem sm4 : Sm 4 = True := eq_true (by unfold Sm; omega)
theorem sm5 : Sm 5 = True := eq_true (by unfold Sm; omega)
theorem sm6 : Sm 6 = True := eq_true (by unfold Sm; omega)
theorem sm7 : Sm 7 = True := eq_true (by unfold Sm; omega)
theorem sm8 : Sm 8 = True := eq_true (by unfold Sm; omega)
theorem sm9 : Sm 9 = True := eq_true (by unfold Sm; omega)
theorem sm10 : Sm 10 = True := eq_true (by unfold Sm; omega)
theorem sm11 : Sm 11 = True := eq_true (by unfold Sm; omega)
theorem sm12 : Sm 12 = True := eq_true (by unfold Sm; omega)
theorem sm13 : Sm 13 = True := eq_true (by unfold Sm; omega)
theorem sm14 : Sm 14 = True := eq_true (by unfold Sm; omega)
theorem sm15 : Sm 15 = True := eq_true (by unfold Sm; omega)
theorem sm16 : Sm 16 = True := eq_true (by unfold Sm; omega)
theorem sm17 : Sm 17 = True := eq_true (by unfold Sm; omega)
theorem sm18 : Sm 18 = True := eq_true (by unfold Sm; omega)
theorem sm19 : Sm 19 = True := eq_true (by unfold Sm; omega)
theorem sm20 : Sm 20 = True := eq_true (by unfold Sm; omega)
theorem sm21 : Sm 21 = True := eq_true (by unfold Sm; omega)
theorem sm22 : Sm 22 = True := eq_true (by unfold Sm; omega)
theorem sm23 : Sm 23 = True := eq_true (by unfold Sm; omega)
theorem sm24 : Sm 24 = True := eq_true (by unfold Sm; omega)
theorem sm25 : Sm 25 = True := eq_true (by unfold Sm; omega)
theorem sm26 : Sm 26 = True := eq_true (by unfold Sm; omega)
theorem sm27 : Sm 27 = True := eq_true (by unfold Sm; omega)
theorem sm28 : Sm 28 = True := eq_true (by unfold Sm; omega)
theorem sm29 : Sm 29 = True := eq_true (by unfold Sm; omega)
theorem sm30 : Sm 30 = True := eq_true (by unfold Sm; omega)
theorem sm31 : Sm 31 = True := eq_true (by unfold Sm; omega)
theorem sm32 : Sm 32 = True := eq_true (by unfold Sm; omega)
theorem sm33 : Sm 33 = True := eq_true (by unfold Sm; omega)
theorem sm34 : Sm 34 = True := eq_true (by unfold Sm; omega)
theorem sm35 : Sm 35 = True := eq_true (by unfold Sm; omega)
theorem sm36 : Sm 36 = True := eq_true (by unfold Sm; omega)
theorem sm37 : Sm 37 = True := eq_true (by unfold Sm; omega)
theorem sm38 : Sm 38 = True := eq_true (by unfold Sm; omega)
theorem sm39 : Sm 39 = True := eq_true (by unfold Sm; omega)
theorem sm40 : Sm 40 = True := eq_true (by unfold Sm; omega)
theorem atI_nat {α : Type} (xs : List α) (n : Nat) (h : n < xs.length) : atI xs ((n : Nat) : Int) = xs[n]? := by
  unfold atI ixN
  rw [if_pos (Int.natCast_nonneg n), if_pos (by omega)]
  simp
theorem at0 {α : Type} (x : α) (xs : List α) : atI (x :: xs) 0 = some x := by
  have := atI_nat (x :: xs) 0 (by simp)
  simpa using this
theorem at1 {α : Type} (x y : α) (xs : List α) : atI (x :: y :: xs) 1 = some y := by
  have := atI_nat (x :: y :: xs) 1 (by simp)
  simpa using this
theorem at2 {α : Type} (x y z : α) (xs : List α) : atI (x :: y :: z :: xs) 2 = some z := by
  have := atI_nat (x :: y :: z :: xs) 2 (by simp)
  simpa using this
theorem at3 {α : Type} (x y z w : α) (xs : List α) : atI (x :: y :: z :: w :: xs) 3 = some w := by
  have := atI_nat (x :: y :: z :: w :: xs) 3 (by simp)
  simpa using this
theorem at4 {α : Type} (x y z w v : α) (xs : List α) : atI (x :: y :: z :: w :: v :: xs) 4 = some v := by
  have := atI_nat (x :: y :: z :: w :: v :: xs) 4 (by simp)
  simpa using this
theorem at5 {α : Type} (x y z w v u : α) (xs : List α) : atI (x :: y :: z :: w :: v :: u :: xs) 5 = some u := by
  have := atI_nat (x :: y :: z :: w :: v :: u :: xs) 5 (by simp)
  simpa using this
/-- an item by its place -/
theorem at_of {α : Type} [Inhabited α] (xs : List α) (i : Int) (h0 : 0 ≤ i) (h : i < xs.length) : atI xs i = some (xs[i.toNat]?.getD default) := by
  obtain ⟨n, rfl⟩ := Int.eq_ofNat_of_zero_le h0
  rw [atI_nat xs n (by omega), Int.toNat_natCast, List.getElem?_eq_getElem (by omega : n < xs.length)]
  rfl
theorem at_map {α β : Type} [Inhabited α] (f : α → β) (xs : List α) (i : Int) (h0 : 0 ≤ i) (h : i < xs.length) : atI (xs.map f) i = some (f (xs[i.toNat]?.getD default)) := by
  obtain ⟨n, rfl⟩ := Int.eq_ofNat_of_zero_le h0
  rw [atI_nat _ n (by rw [List.length_map]; omega), Int.toNat_natCast, List.getElem?_map, List.getElem?_eq_getElem (by omega : n < xs.length)]
  rfl


/-! ### loops -/
theorem lcL_ind {turn : D → Rho → Res (Option D)} (J : List D → List D → Rho → Prop)
    (step : ∀ d ds acc ρ, J (d :: ds) acc ρ → (∃ x ρ', turn d ρ = .ok (some x) ρ' ∧ J ds (acc ++ [x]) ρ' ∧ acc.length < 16777216) ∨ (∃ ρ', turn d ρ = .ok none ρ' ∧ J ds acc ρ')) :
    ∀ ds acc ρ, J ds acc ρ → ∃ acc' ρ', lcL turn ds acc ρ = .ok acc' ρ' ∧ J [] acc' ρ'
  | [], acc, ρ, h => ⟨acc, ρ, by rw [lcL_nil], h⟩
  | d :: ds, acc, ρ, h => by
    rcases step d ds acc ρ h with ⟨x, ρ', e, h', hl⟩ | ⟨ρ', e, h'⟩
    · obtain ⟨acc', ρ2, e2, h2⟩ := lcL_ind J step ds (acc ++ [x]) ρ' h'
      refine ⟨acc', ρ2, ?_, h2⟩
      rw [lcL_cons, e]
      show (if Sm (acc.length + 1) then lcL turn ds (acc ++ [x]) ρ' else .bad) = _
      rw [if_pos (show Sm _ from hl), e2]
    · obtain ⟨acc', ρ2, e2, h2⟩ := lcL_ind J step ds acc ρ' h'
      refine ⟨acc', ρ2, ?_, h2⟩
      rw [lcL_cons, e]
      exact e2
/-- each turn gives g d, from and to a state of R -/
theorem lcL_map {turn : D → Rho → Res (Option D)} (R : Rho → Prop) (g : D → D) {ds : List D} (h : ∀ d ∈ ds, ∀ ρ, R ρ → ∃ ρ', turn d ρ = .ok (some (g d)) ρ' ∧ R ρ') {ρ : Rho} (hR : R ρ) (hl : ds.length ≤ 16777216) :
    ∃ ρ', lcL turn ds [] ρ = .ok (ds.map g) ρ' ∧ R ρ' := by
  obtain ⟨acc', ρ', e, ⟨pre, h1, h2⟩, hR'⟩ := lcL_ind (turn := turn) (fun rest acc ρ => (∃ pre, pre ++ rest = ds ∧ acc = pre.map g) ∧ R ρ) (fun d rest acc ρ ⟨⟨pre, h1, h2⟩, hR⟩ => by
    obtain ⟨ρ', e, hR'⟩ := h d (by rw [← h1]; simp) ρ hR
    refine .inl ⟨g d, ρ', e, ⟨⟨pre ++ [d], by rw [← h1]; simp, by rw [h2]; simp⟩, hR'⟩, ?_⟩
    rw [h2, List.length_map]
    have := congrArg List.length h1
    rw [List.length_append, List.length_cons] at this
    omega) ds [] ρ ⟨⟨[], rfl, rfl⟩, hR⟩
  rw [List.append_nil] at h1
  subst h1 h2
  exact ⟨ρ', e, hR'⟩
theorem lcL_keep {turn : D → Rho → Res (Option D)} (R : Rho → Prop) (g : D → Option D) {ds : List D} (h : ∀ d ∈ ds, ∀ ρ, R ρ → ∃ ρ', turn d ρ = .ok (g d) ρ' ∧ R ρ') {ρ : Rho} (hR : R ρ) (hl : ds.length ≤ 16777216) :
    ∃ ρ', lcL turn ds [] ρ = .ok (ds.filterMap g) ρ' ∧ R ρ' := by
  obtain ⟨acc', ρ', e, ⟨pre, h1, h2⟩, hR'⟩ := lcL_ind (turn := turn) (fun rest acc ρ => (∃ pre, pre ++ rest = ds ∧ acc = pre.filterMap g) ∧ R ρ) (fun d rest acc ρ ⟨⟨pre, h1, h2⟩, hR⟩ => by
    obtain ⟨ρ', e, hR'⟩ := h d (by rw [← h1]; simp) ρ hR
    cases hg : g d with
    | none => exact .inr ⟨ρ', by rw [e, hg], ⟨pre ++ [d], by rw [← h1]; simp, by rw [h2]; simp [hg]⟩, hR'⟩
    | some x =>
      refine .inl ⟨x, ρ', by rw [e, hg], ⟨⟨pre ++ [d], by rw [← h1]; simp, by rw [h2]; simp [hg]⟩, hR'⟩, ?_⟩
      rw [h2]
      have h3 : (pre.filterMap g).length ≤ pre.length := List.length_filterMap_le _ _
      have := congrArg List.length h1
      rw [List.length_append, List.length_cons] at this
      omega) ds [] ρ ⟨⟨[], rfl, rfl⟩, hR⟩
  rw [List.append_nil] at h1
  subst h1 h2
  exact ⟨ρ', e, hR'⟩
theorem clr_idem (ρ : Rho) (fg : List Nat) : clr (clr ρ fg) fg = clr ρ fg := clr_sub fun _ h => h
/-- what a turn leaves -/
def cl (fg : List Nat) : Out → Out
  | .next ρ => .next (clr ρ fg)
  | .cnt ρ => .next (clr ρ fg)
  | .brk ρ => .brk (clr ρ fg)
  | o => o
theorem cl_next {fg : List Nat} {ρ : Rho} : cl fg (.next ρ) = .next (clr ρ fg) := rfl
theorem cl_cnt {fg : List Nat} {ρ : Rho} : cl fg (.cnt ρ) = .next (clr ρ fg) := rfl
theorem cl_brk {fg : List Nat} {ρ : Rho} : cl fg (.brk ρ) = .brk (clr ρ fg) := rfl
theorem cl_ret {fg : List Nat} {t : Tm} {ρ : Rho} : cl fg (.ret t ρ) = .ret t ρ := rfl
theorem cl_exc {fg : List Nat} {x : Ex} {ρ : Rho} : cl fg (.exc x ρ) = .exc x ρ := rfl
theorem cl_bad {fg : List Nat} : cl fg .bad = .bad := rfl
theorem cl_ite {fg : List Nat} {c : Prop} [Decidable c] {a b : Out} : cl fg (if c then a else b) = if c then cl fg a else cl fg b := by split <;> rfl
/-- a turn of a for -/
def turn (body : Rho → Out) (tg : Tg) (fg : List Nat) (d : D) (ρ : Rho) : Out := match asgTg tg d ρ with
  | none => .bad
  | some ρ1 => cl fg (body ρ1)
theorem turn_def (body : Rho → Out) (tg : Tg) (fg : List Nat) (d : D) (ρ : Rho) : turn body tg fg d ρ = match asgTg tg d ρ with
  | none => .bad
  | some ρ1 => cl fg (body ρ1) := rfl
def wturn (test : Rho → Res Bool) (body : Rho → Out) (fg : List Nat) (ρ : Rho) : Out := (test ρ).out fun k ρ1 => if k then cl fg (body ρ1) else .brk ρ1
theorem wturn_def (test : Rho → Res Bool) (body : Rho → Out) (fg : List Nat) (ρ : Rho) : wturn test body fg ρ = (test ρ).out fun k ρ1 => if k then cl fg (body ρ1) else .brk ρ1 := rfl
theorem forL_clr {body : Rho → Out} {tg : Tg} {fg : List Nat} {ρ : Rho} : ∀ ds, forL body tg fg ds (clr ρ fg) = forL body tg fg ds ρ
  | [] => by unfold forL; rw [clr_idem]
  | d :: ds => by unfold forL; rw [clr_idem]
theorem forL_nil {body : Rho → Out} {tg : Tg} {fg : List Nat} {ρ : Rho} : forL body tg fg [] ρ = .next (clr ρ fg) := by unfold forL; rfl
theorem forL_cons {body : Rho → Out} {tg : Tg} {fg : List Nat} {d : D} {ds : List D} {ρ : Rho} : forL body tg fg (d :: ds) ρ = match turn body tg fg d (clr ρ fg) with
    | .next ρ' => forL body tg fg ds ρ'
    | .brk ρ' => .next ρ'
    | o => o := by
  conv => lhs; unfold forL
  unfold turn
  cases asgTg tg d (clr ρ fg) with
  | none => rfl
  | some ρ1 =>
    simp only
    cases body ρ1 with
    | next ρ2 => exact (forL_clr ds).symm
    | cnt ρ2 => exact (forL_clr ds).symm
    | brk ρ2 => rfl
    | ret t ρ2 => rfl
    | exc x ρ2 => rfl
    | bad => rfl
theorem whlL_clr {test : Rho → Res Bool} {body : Rho → Out} {fg : List Nat} {ρ : Rho} : ∀ n, whlL test body fg n (clr ρ fg) = whlL test body fg n ρ
  | 0 => rfl
  | n + 1 => by unfold whlL; rw [clr_idem]
theorem whlL_succ {test : Rho → Res Bool} {body : Rho → Out} {fg : List Nat} {ρ : Rho} {n : Nat} : whlL test body fg (n + 1) ρ = match wturn test body fg (clr ρ fg) with
    | .next ρ' => whlL test body fg n ρ'
    | .brk ρ' => .next ρ'
    | o => o := by
  conv => lhs; unfold whlL
  unfold wturn
  cases test (clr ρ fg) with
  | bad => rfl
  | exc x ρ1 => rfl
  | ok k ρ1 =>
    cases k with
    | false => rfl
    | true =>
      simp only [Res.out, if_true]
      cases body ρ1 with
      | next ρ2 => exact (whlL_clr n).symm
      | cnt ρ2 => exact (whlL_clr n).symm
      | brk ρ2 => rfl
      | ret t ρ2 => rfl
      | exc x ρ2 => rfl
      | bad => rfl
/-- a for, by states of its own -/
theorem forL_P {α X : Type} {body : Rho → Out} {tg : Tg} {fg : List Nat} (enc : α → Rho) (dX : X → D) (J : α → List X → Prop) (P : Out → Prop)
    (step : ∀ a x xs, J a (x :: xs) → (∃ a', turn body tg fg (dX x) (enc a) = .next (enc a') ∧ J a' xs) ∨ (∃ ρ, turn body tg fg (dX x) (enc a) = .brk ρ ∧ P (.next ρ)) ∨ (∃ t ρ, turn body tg fg (dX x) (enc a) = .ret t ρ ∧ P (.ret t ρ)) ∨ (∃ e ρ, turn body tg fg (dX x) (enc a) = .exc e ρ ∧ P (.exc e ρ)))
    (fin : ∀ a, J a [] → P (.next (enc a))) : ∀ xs a ρ, clr ρ fg = enc a → J a xs → P (forL body tg fg (xs.map dX) ρ)
  | [], a, ρ, h, hJ => by rw [List.map_nil, forL_nil, h]; exact fin a hJ
  | x :: xs, a, ρ, h, hJ => by
    rw [List.map_cons, forL_cons, h]
    rcases step a x xs hJ with ⟨a', e, h'⟩ | ⟨ρ2, e, h'⟩ | ⟨t, ρ2, e, h'⟩ | ⟨y, ρ2, e, h'⟩
    · rw [e]
      show P (forL body tg fg (xs.map dX) (enc a'))
      rw [← forL_clr]
      have hc : clr (enc a') fg = enc a' := by
        have hh : ∃ o, turn body tg fg (dX x) (enc a) = cl fg o := by
          unfold turn at e ⊢
          cases hq : asgTg tg (dX x) (enc a) with
          | none => rw [hq] at e; cases e
          | some ρ1 => exact ⟨body ρ1, rfl⟩
        obtain ⟨o, ho⟩ := hh
        rw [ho] at e
        cases o with
        | next ρ2 => rw [cl_next] at e; rw [← Out.next.inj e]; exact clr_idem _ _
        | cnt ρ2 => rw [cl_cnt] at e; rw [← Out.next.inj e]; exact clr_idem _ _
        | brk ρ2 => cases e
        | ret t ρ2 => cases e
        | exc t ρ2 => cases e
        | bad => cases e
      exact forL_P enc dX J P step fin xs a' _ (by rw [hc, hc]) h'
    · rw [e]; exact h'
    · rw [e]; exact h'
    · rw [e]; exact h'
/-- .. that runs to its end -/
theorem forL_fold {α X : Type} {body : Rho → Out} {tg : Tg} {fg : List Nat} (enc : α → Rho) (dX : X → D) (f : α → X → α) (J : α → List X → Prop)
    (step : ∀ a x xs, J a (x :: xs) → turn body tg fg (dX x) (enc a) = .next (enc (f a x)) ∧ J (f a x) xs) (xs : List X) (a : α) (ρ : Rho) (h : clr ρ fg = enc a) (hJ : J a xs) :
    forL body tg fg (xs.map dX) ρ = .next (enc (xs.foldl f a)) ∧ J (xs.foldl f a) [] := by
  have := forL_P (body := body) (tg := tg) (fg := fg) enc dX (fun b ys => J b ys ∧ ys.foldl f b = xs.foldl f a) (fun o => o = .next (enc (xs.foldl f a)) ∧ J (xs.foldl f a) []) (fun b x ys ⟨h1, h2⟩ => .inl ⟨f b x, (step b x ys h1).1, (step b x ys h1).2, h2⟩) (fun b ⟨h1, h2⟩ => by
    rw [List.foldl_nil] at h2
    rw [← h2]
    exact ⟨rfl, h1⟩) xs a ρ h ⟨hJ, rfl⟩
  exact this
/-- a for, drawing -/
theorem forL_R {α X : Type} {body : Rho → Out} {tg : Tg} {fg : List Nat} (enc : α → Rho) (dX : X → D) (J : α → List X → Prop)
    (step : ∀ a x xs, J a (x :: xs) → ∃ a', turn body tg fg (dX x) (enc a) = .next (enc a') ∧ J a' xs) (xs : List X) (a : α) (ρ : Rho) (h : clr ρ fg = enc a) (hJ : J a xs) :
    ∃ a', forL body tg fg (xs.map dX) ρ = .next (enc a') ∧ J a' [] :=
  forL_P enc dX J (fun o => ∃ a', o = .next (enc a') ∧ J a' []) (fun a x xs h => .inl (step a x xs h)) (fun a h => ⟨a, rfl, h⟩) xs a ρ h hJ
theorem whlL_P {α : Type} {test : Rho → Res Bool} {body : Rho → Out} {fg : List Nat} (enc : α → Rho) (J : α → Prop) (m : α → Nat) (P : Out → Prop)
    (step : ∀ a, J a → (∃ a', wturn test body fg (enc a) = .next (enc a') ∧ J a' ∧ m a' < m a) ∨ (∃ ρ, wturn test body fg (enc a) = .brk ρ ∧ P (.next ρ)) ∨ (∃ t ρ, wturn test body fg (enc a) = .ret t ρ ∧ P (.ret t ρ)) ∨ (∃ e ρ, wturn test body fg (enc a) = .exc e ρ ∧ P (.exc e ρ))) :
    ∀ n a ρ, clr ρ fg = enc a → J a → m a < n → P (whlL test body fg n ρ)
  | 0, _, _, _, _, h => absurd h (Nat.not_lt_zero _)
  | n + 1, a, ρ, h, hJ, hm => by
    rw [whlL_succ, h]
    rcases step a hJ with ⟨a', e, h', hlt⟩ | ⟨ρ2, e, h'⟩ | ⟨t, ρ2, e, h'⟩ | ⟨y, ρ2, e, h'⟩
    · rw [e]
      show P (whlL test body fg n (enc a'))
      rw [← whlL_clr]
      have hc : clr (enc a') fg = enc a' := by
        unfold wturn at e
        cases hq : test (enc a) with
        | bad => rw [hq] at e; cases e
        | exc x ρ1 => rw [hq] at e; cases e
        | ok k ρ1 =>
          rw [hq] at e
          cases k with
          | false => cases e
          | true =>
            simp only [Res.out, if_true] at e
            cases ho : body ρ1 with
            | next ρ2 => rw [ho, cl_next] at e; rw [← Out.next.inj e]; exact clr_idem _ _
            | cnt ρ2 => rw [ho, cl_cnt] at e; rw [← Out.next.inj e]; exact clr_idem _ _
            | brk ρ2 => rw [ho] at e; cases e
            | ret t ρ2 => rw [ho] at e; cases e
            | exc t ρ2 => rw [ho] at e; cases e
            | bad => rw [ho] at e; cases e
      exact whlL_P enc J m P step n a' _ (by rw [hc, hc]) h' (by omega)
    · rw [e]; exact h'
    · rw [e]; exact h'
    · rw [e]; exact h'
/-! ### comprehensions -/
theorem evalE_lc {own : List (Str × Nat)} {tg : Tg} {it : I} {c : Option T} {e : E} {ρ ρ1 : Rho} {ds : List D} (hI : evalI it ρ = .ok ds ρ1) (hp : (own.map (·.2)).all (plainAt ρ1) = true) {acc : List D} {ρ' : Rho}
    (h : lcL (lcT (own.map (·.2)) tg (fun ρ => evalC c ρ) (fun ρ => evalE e ρ)) ds [] ρ1 = .ok acc ρ') : evalE (.lc own tg it c e) ρ = .ok (.ow (.list acc)) (rst ρ1 ρ' (own.map (·.2))) := by
  conv => lhs; unfold evalE
  rw [hI]
  show (if (own.map (·.2)).all (plainAt ρ1) = true then _ else _) = _
  rw [if_pos hp, h]
  rfl
/-- a comprehension without a test: each turn gives g d -/
theorem lc_map {own : List (Str × Nat)} {tg : Tg} {it : I} {e : E} {ρ ρ1 : Rho} {ds : List D} (R : Rho → Prop) (g : D → D) (hI : evalI it ρ = .ok ds ρ1) (hp : (own.map (·.2)).all (plainAt ρ1) = true) (hR : R ρ1)
    (h : ∀ d ∈ ds, ∀ ρ, R ρ → ∃ ρ', lcT (own.map (·.2)) tg (fun ρ => evalC none ρ) (fun ρ => evalE e ρ) d ρ = .ok (some (g d)) ρ' ∧ R ρ') (hl : ds.length ≤ 16777216) {r : Res Tm} (fin : ∀ ρ', R ρ' → .ok (.ow (.list (ds.map g))) (rst ρ1 ρ' (own.map (·.2))) = r) :
    evalE (.lc own tg it none e) ρ = r := by
  obtain ⟨ρ', e1, hR'⟩ := lcL_map R g h hR hl
  rw [evalE_lc hI hp e1]
  exact fin ρ' hR'
/-- .. that leaves the slots as they stand -/
theorem lc_map0 {own : List (Str × Nat)} {tg : Tg} {it : I} {e : E} {ρ : Rho} {ds : List D} (R : Rho → Prop) (g : D → D) (hI : evalI it ρ = .ok ds ρ) (hp : (own.map (·.2)).all (plainAt ρ) = true) (hR : R ρ)
    (h : ∀ d ∈ ds, ∀ ρ, R ρ → ∃ ρ', lcT (own.map (·.2)) tg (fun ρ => evalC none ρ) (fun ρ => evalE e ρ) d ρ = .ok (some (g d)) ρ' ∧ R ρ') (hl : ds.length ≤ 16777216) (fin : ∀ ρ', R ρ' → rst ρ ρ' (own.map (·.2)) = ρ) {ds' : List D} (hg : ds.map g = ds') :
    evalE (.lc own tg it none e) ρ = .ok (.ow (.list ds')) ρ :=
  lc_map R g hI hp hR h hl fun ρ' hR' => by rw [fin ρ' hR', hg]
/-- a comprehension, by an invariant of the rest, the list so far and the slots -/
theorem lc_P {own : List (Str × Nat)} {tg : Tg} {it : I} {c : Option T} {e : E} {ρ ρ1 : Rho} {ds : List D} (P : Res Tm → Prop) (J : List D → List D → Rho → Prop) (hI : evalI it ρ = .ok ds ρ1) (hp : (own.map (·.2)).all (plainAt ρ1) = true) (h0 : J ds [] ρ1)
    (step : ∀ d rest acc ρ, J (d :: rest) acc ρ → (∃ x ρ', lcT (own.map (·.2)) tg (fun ρ => evalC c ρ) (fun ρ => evalE e ρ) d ρ = .ok (some x) ρ' ∧ J rest (acc ++ [x]) ρ' ∧ acc.length < 16777216) ∨ (∃ ρ', lcT (own.map (·.2)) tg (fun ρ => evalC c ρ) (fun ρ => evalE e ρ) d ρ = .ok none ρ' ∧ J rest acc ρ'))
    (fin : ∀ acc ρ', J [] acc ρ' → P (.ok (.ow (.list acc)) (rst ρ1 ρ' (own.map (·.2))))) : P (evalE (.lc own tg it c e) ρ) := by
  obtain ⟨acc, ρ', e1, hJ⟩ := lcL_ind J step ds [] ρ1 h0
  rw [evalE_lc hI hp e1]
  exact fin acc ρ' hJ
theorem whl_no {test : Rho → Res Bool} {body : Rho → Out} {fg : List Nat} {n : Nat} {ρ ρ' : Rho} (h : test (clr ρ fg) = .ok false ρ') (hn : 0 < n) : whlL test body fg n ρ = .next ρ' := by
  cases n with
  | zero => exact absurd hn (Nat.lt_irrefl 0)
  | succ n => unfold whlL; rw [h]; rfl
/-- a comprehension's turn, its own slots forgotten behind it -/
def lcC (ws : List Nat) (tg : Tg) (ec : Rho → Res Bool) (ee : Rho → Res Tm) (d : D) (ρ : Rho) : Res (Option D) := (lcT ws tg ec ee d ρ).bind fun o ρ' => .ok o (clr ρ' ws)
theorem lcC_def (ws : List Nat) (tg : Tg) (ec : Rho → Res Bool) (ee : Rho → Res Tm) (d : D) (ρ : Rho) : lcC ws tg ec ee d ρ = ((onTg (asgTg tg d (clr ρ ws))).bind fun _ ρ3 => (ec ρ3).bind fun k ρ4 => if k then (ee ρ4).bind fun t ρ5 => (take t ρ5).bind fun x ρ6 => .ok (some x) (clr ρ6 ws) else .ok none (clr ρ4 ws)) := by
  unfold lcC lcT
  rw [Res.bind_assoc]
  congr 1
  funext _ ρ3
  rw [Res.bind_assoc]
  congr 1
  funext k ρ4
  cases k with
  | false => rfl
  | true =>
    simp only [if_true]
    rw [Res.bind_assoc]
    congr 1
    funext t ρ5
    rw [Res.bind_assoc]
    rfl
theorem lcT_clr {ws : List Nat} {tg : Tg} {ec : Rho → Res Bool} {ee : Rho → Res Tm} {d : D} {ρ : Rho} : lcT ws tg ec ee d (clr ρ ws) = lcT ws tg ec ee d ρ := by unfold lcT; rw [clr_idem]
theorem lcL_R {α X : Type} {ws : List Nat} {tg : Tg} {ec : Rho → Res Bool} {ee : Rho → Res Tm} (enc : α → Rho) (dX : X → D) (J : α → List X → List D → Prop)
    (step : ∀ a x xs acc, J a (x :: xs) acc → ∃ o a', lcC ws tg ec ee (dX x) (enc a) = .ok o (enc a') ∧ J a' xs (acc ++ o.toList) ∧ acc.length < 16777216) :
    ∀ xs a acc ρ, clr ρ ws = enc a → J a xs acc → ∃ a' acc' ρ', lcL (lcT ws tg ec ee) (xs.map dX) acc ρ = .ok acc' ρ' ∧ clr ρ' ws = enc a' ∧ J a' [] acc'
  | [], a, acc, ρ, h, hJ => ⟨a, acc, ρ, by rw [List.map_nil, lcL_nil], h, hJ⟩
  | x :: xs, a, acc, ρ, h, hJ => by
    obtain ⟨o, a', e, h', hl⟩ := step a x xs acc hJ
    rw [List.map_cons, lcL_cons, ← lcT_clr, h]
    unfold lcC at e
    cases q : lcT ws tg ec ee (dX x) (enc a) with
    | bad => rw [q] at e; cases e
    | exc y ρ2 => rw [q] at e; cases e
    | ok o2 ρ2 =>
      rw [q] at e
      injection (show Res.ok o2 (clr ρ2 ws) = .ok o (enc a') from e) with e1 e2
      subst e1
      obtain ⟨b, acc', ρ', k1, k2, k3⟩ := lcL_R enc dX J step xs a' (acc ++ o2.toList) ρ2 e2 h'
      refine ⟨b, acc', ρ', ?_, k2, k3⟩
      cases o2 with
      | none => rw [← k1]; show lcL _ _ acc ρ2 = lcL _ _ (acc ++ []) ρ2; rw [List.append_nil]
      | some z => show (if Sm (acc.length + 1) then lcL _ _ (acc ++ [z]) ρ2 else .bad) = _; rw [if_pos (show Sm _ from hl)]; exact k1
theorem rst_self : ∀ (ws : List Nat) (ρ : Rho), rst ρ ρ ws = ρ
  | [], ρ => rfl
  | v :: vs, ρ => by
    unfold rst
    rw [rst_self vs ρ]
    by_cases h : v < ρ.length
    · rw [List.getElem?_eq_getElem h]; exact List.set_getElem_self h
    · exact List.set_eq_of_length_le (by omega)
/-- a comprehension, by states of its own -/
theorem lc_R {α X : Type} {own : List (Str × Nat)} {tg : Tg} {it : I} {c : Option T} {e : E} {ρ ρ1 : Rho} (enc : α → Rho) (dX : X → D) (xs : List X) (J : α → List X → List D → Prop) (P : Res Tm → Prop)
    (hI : evalI it ρ = .ok (xs.map dX) ρ1) (hp : (own.map (·.2)).all (plainAt ρ1) = true) (a0 : α) (h0 : clr ρ1 (own.map (·.2)) = enc a0) (hJ : J a0 xs [])
    (step : ∀ a x rest acc, J a (x :: rest) acc → ∃ o a', lcC (own.map (·.2)) tg (fun ρ => evalC c ρ) (fun ρ => evalE e ρ) (dX x) (enc a) = .ok o (enc a') ∧ J a' rest (acc ++ o.toList) ∧ acc.length < 16777216)
    (fin : ∀ a acc, J a [] acc → P (.ok (.ow (.list acc)) (rst ρ1 (enc a) (own.map (·.2))))) : P (evalE (.lc own tg it c e) ρ) := by
  obtain ⟨a', acc', ρ', k1, k2, k3⟩ := lcL_R enc dX J step xs a0 [] ρ1 h0 hJ
  rw [evalE_lc hI hp k1, ← rst_clr, k2]
  exact fin a' acc' k3
/-- .. that changes nothing -/
theorem lc_fm {X : Type} {own : List (Str × Nat)} {tg : Tg} {it : I} {c : Option T} {e : E} {ρ ρ1 : Rho} (dX : X → D) (xs : List X) (g : X → Option D)
    (hI : evalI it ρ = .ok (xs.map dX) ρ1) (hp : (own.map (·.2)).all (plainAt ρ1) = true) (hl : xs.length ≤ 16777216)
    (step : ∀ x ∈ xs, lcC (own.map (·.2)) tg (fun ρ => evalC c ρ) (fun ρ => evalE e ρ) (dX x) (clr ρ1 (own.map (·.2))) = .ok (g x) (clr ρ1 (own.map (·.2)))) :
    evalE (.lc own tg it c e) ρ = .ok (.ow (.list (xs.filterMap g))) ρ1 := by
  refine lc_R (α := Unit) (fun _ => clr ρ1 (own.map (·.2))) dX xs (fun _ rest acc => ∃ pre, pre ++ rest = xs ∧ acc = pre.filterMap g) (fun r => r = .ok (.ow (.list (xs.filterMap g))) ρ1) hI hp () rfl ⟨[], rfl, rfl⟩ ?_ ?_
  · rintro _ x rest acc ⟨pre, h1, h2⟩
    refine ⟨g x, (), step x (by rw [← h1]; simp), ⟨pre ++ [x], by rw [← h1]; simp, ?_⟩, ?_⟩
    · rw [h2, List.filterMap_append]
      cases hg : g x <;> simp [hg]
    · rw [h2]
      have h3 : (pre.filterMap g).length ≤ pre.length := List.length_filterMap_le _ _
      have := congrArg List.length h1
      rw [List.length_append, List.length_cons] at this
      omega
  · rintro _ acc ⟨pre, h1, h2⟩
    rw [List.append_nil] at h1
    rw [h2, h1, rst_clr, rst_self]
theorem lc_map' {X : Type} {own : List (Str × Nat)} {tg : Tg} {it : I} {c : Option T} {e : E} {ρ ρ1 : Rho} (dX : X → D) (xs : List X) (g : X → D)
    (hI : evalI it ρ = .ok (xs.map dX) ρ1) (hp : (own.map (·.2)).all (plainAt ρ1) = true) (hl : xs.length ≤ 16777216)
    (step : ∀ x ∈ xs, lcC (own.map (·.2)) tg (fun ρ => evalC c ρ) (fun ρ => evalE e ρ) (dX x) (clr ρ1 (own.map (·.2))) = .ok (some (g x)) (clr ρ1 (own.map (·.2)))) :
    evalE (.lc own tg it c e) ρ = .ok (.ow (.list (xs.map g))) ρ1 := by
  rw [lc_fm dX xs (fun x => some (g x)) hI hp hl step]
  congr 4
  induction xs with
  | nil => rfl
  | cons x xs ih => simp
/-- a filter -/
theorem lc_filter {X : Type} {own : List (Str × Nat)} {tg : Tg} {it : I} {c : Option T} {e : E} {ρ ρ1 : Rho} (dX : X → D) (xs : List X) (p : X → Bool) (g : X → D)
    (hI : evalI it ρ = .ok (xs.map dX) ρ1) (hp : (own.map (·.2)).all (plainAt ρ1) = true) (hl : xs.length ≤ 16777216)
    (step : ∀ x ∈ xs, lcC (own.map (·.2)) tg (fun ρ => evalC c ρ) (fun ρ => evalE e ρ) (dX x) (clr ρ1 (own.map (·.2))) = .ok (if p x then some (g x) else none) (clr ρ1 (own.map (·.2)))) :
    evalE (.lc own tg it c e) ρ = .ok (.ow (.list ((xs.filter p).map g))) ρ1 := by
  rw [lc_fm dX xs _ hI hp hl step]
  congr 4
  clear hI hl step
  induction xs with
  | nil => rfl
  | cons x xs ih => cases h : p x <;> simp [h, ih]
/-- two fors in one comprehension that changes nothing -/
theorem lc2_fm {X Y : Type} {own : List (Str × Nat)} {tg tg1 : Tg} {it it1 : I} {c : Option T} {e : E} {ρ ρ1 : Rho} (dX : X → D) (xs : List X) (dY : Y → D) (ys : X → List Y) (g : X → Y → Option D)
    (hI : evalI it ρ = .ok (xs.map dX) ρ1) (hp : (own.map (·.2)).all (plainAt ρ1) = true) (hl : (xs.flatMap ys).length ≤ 16777216) (hs : ∀ i ∈ tgIx tg1, i ∈ own.map (·.2))
    (step : ∀ x ∈ xs, ∃ ρx, asgTg tg (dX x) (clr ρ1 (own.map (·.2))) = some ρx ∧ evalI it1 ρx = .ok ((ys x).map dY) ρx ∧ clr ρx (own.map (·.2)) = clr ρ1 (own.map (·.2)) ∧
      ∀ y ∈ ys x, lcC (tgIx tg1) tg1 (fun ρ => evalC c ρ) (fun ρ => evalE e ρ) (dY y) (clr ρx (tgIx tg1)) = .ok (g x y) (clr ρx (tgIx tg1))) :
    evalE (.lc2 own tg it tg1 it1 c e) ρ = .ok (.ow (.list (xs.flatMap fun x => (ys x).filterMap (g x)))) ρ1 := by
  have key : ∀ (zs : List X) (acc : List D) (n : Nat) (ρ2 : Rho), (∀ x ∈ zs, x ∈ xs) → acc.length ≤ n → n + (zs.flatMap ys).length ≤ 16777216 → clr ρ2 (own.map (·.2)) = clr ρ1 (own.map (·.2)) →
      ∃ ρ', lcL2 (lcT2 (own.map (·.2)) tg (fun ρ => evalI it1 ρ) (lcT (tgIx tg1) tg1 (fun ρ => evalC c ρ) (fun ρ => evalE e ρ))) (zs.map dX) acc ρ2 = .ok (acc ++ zs.flatMap fun x => (ys x).filterMap (g x)) ρ' ∧ clr ρ' (own.map (·.2)) = clr ρ1 (own.map (·.2)) := by
    intro zs
    induction zs with
    | nil => intro acc n ρ2 _ _ _ h; exact ⟨ρ2, by rw [List.map_nil, lcL2_nil]; simp, h⟩
    | cons x zs ih =>
      intro acc n ρ2 hm ha hn h
      rw [List.flatMap_cons, List.length_append] at hn
      obtain ⟨ρx, e1, e2, e3, e4⟩ := step x (hm x List.mem_cons_self)
      obtain ⟨_, acc', ρ3, k1, k2, pre, k3, k4⟩ := lcL_R (ws := tgIx tg1) (tg := tg1) (ec := fun ρ => evalC c ρ) (ee := fun ρ => evalE e ρ) (α := Unit) (fun _ => clr ρx (tgIx tg1)) dY (fun _ rest a => ∃ pre, pre ++ rest = ys x ∧ a = acc ++ pre.filterMap (g x)) (by
        rintro _ y rest a ⟨pre, h1, rfl⟩
        refine ⟨g x y, (), e4 y (by rw [← h1]; simp), ⟨pre ++ [y], by rw [← h1]; simp, ?_⟩, ?_⟩
        · rw [List.filterMap_append, List.append_assoc]
          cases hg : g x y <;> simp [hg]
        · have h3 : (pre.filterMap (g x)).length ≤ pre.length := List.length_filterMap_le _ _
          have := congrArg List.length h1
          rw [List.length_append, List.length_cons] at this
          rw [List.length_append]
          omega) (ys x) () acc ρx rfl ⟨[], rfl, by simp⟩
      rw [List.append_nil] at k3
      subst k3
      have hc : clr ρ3 (own.map (·.2)) = clr ρ1 (own.map (·.2)) := by
        rw [← e3, ← clr_sub hs, k2, clr_sub hs]
      have h3 : ((ys x).filterMap (g x)).length ≤ (ys x).length := List.length_filterMap_le _ _
      obtain ⟨ρ', r1, r2⟩ := ih acc' (n + (ys x).length) ρ3 (fun z hz => hm z (List.mem_cons_of_mem _ hz)) (by rw [k4, List.length_append]; omega) (by omega) hc
      refine ⟨ρ', ?_, r2⟩
      rw [List.map_cons, lcL2_cons]
      unfold lcT2
      rw [h, e1]
      show Res.bind (Res.bind (evalI it1 ρx) _) _ = _
      rw [e2]
      show Res.bind (lcL _ ((ys x).map dY) acc ρx) _ = _
      rw [k1]
      show lcL2 _ _ acc' ρ3 = _
      unfold lcT2 at r1
      rw [r1, k4, List.flatMap_cons, List.append_assoc]
  obtain ⟨ρ', k1, k2⟩ := key xs [] 0 ρ1 (fun _ h => h) (Nat.le_refl _) (by omega) rfl
  conv => lhs; unfold evalE
  rw [hI]
  show (if (own.map (·.2)).all (plainAt ρ1) = true then _ else _) = _
  rw [if_pos hp, k1]
  show Res.ok _ (rst ρ1 ρ' (own.map (·.2))) = _
  rw [← rst_clr, k2, rst_clr, rst_self, List.nil_append]
def intL (ns : List Int) : List D := ns.map .int
theorem intL_length (ns : List Int) : (intL ns).length = ns.length := List.length_map _
/-! ### data that may be compared -/
structure Shp (n : Nat) (d : D) : Prop where
  lay : d.canLay0 = true
  dep : d.depth ≤ n
theorem Shp.int {n : Nat} {i : Int} : Shp n (.int i) := ⟨by simp [PyData.canLay0], by simp [PyData.depth]⟩
theorem Shp.bool {n : Nat} {i : Bool} : Shp n (.bool i) := ⟨by simp [PyData.canLay0], by simp [PyData.depth]⟩
theorem Shp.none {n : Nat} : Shp n .none := ⟨by simp [PyData.canLay0], by simp [PyData.depth]⟩
theorem Shp.str {n : Nat} {x : Str} (h : PyData.strOk x = true := by decide +kernel) : Shp n (.str x) := ⟨by simp [PyData.canLay0, h], by simp [PyData.depth]⟩
theorem Shp.all {n : Nat} : ∀ {ds : List D}, (∀ d ∈ ds, Shp n d) → PyData.canLayAll0 ds = true ∧ PyData.depthAll ds ≤ n
  | [], _ => ⟨by simp [PyData.canLayAll0], by simp [PyData.depthAll]⟩
  | d :: ds, h => by
    obtain ⟨h1, h2⟩ := Shp.all (n := n) (ds := ds) fun x hx => h x (List.mem_cons_of_mem _ hx)
    have h0 := h d List.mem_cons_self
    exact ⟨by simp [PyData.canLayAll0, h0.lay, h1], by simp only [PyData.depthAll]; exact Nat.max_le.mpr ⟨h0.dep, h2⟩⟩
theorem Shp.tup {n : Nat} {ds : List D} (h : ∀ d ∈ ds, Shp n d) : Shp (n + 1) (.tuple ds) := by
  obtain ⟨h1, h2⟩ := Shp.all h
  exact ⟨by simp [PyData.canLay0, h1], by simp [PyData.depth]; exact h2⟩
theorem Shp.lst {n : Nat} {ds : List D} (h : ∀ d ∈ ds, Shp n d) : Shp (n + 1) (.list ds) := by
  obtain ⟨h1, h2⟩ := Shp.all h
  exact ⟨by simp [PyData.canLay0, h1], by simp [PyData.depth]; exact h2⟩
theorem Shp.mono {n m : Nat} {d : D} (h : Shp n d) (hm : n ≤ m) : Shp m d := ⟨h.lay, Nat.le_trans h.dep hm⟩
theorem Shp.intL {n : Nat} {ns : List Int} : Shp (n + 1) (.tuple (intL ns)) := Shp.tup fun d hd => by
  obtain ⟨i, _, rfl⟩ := List.mem_map.mp hd
  exact .int
theorem Shp.ok {n : Nat} {d : D} (h : Shp n d) (hn : n ≤ 64 := by omega) : SeqAt.shaped d = true := by
  unfold SeqAt.shaped
  rw [h.lay, decide_eq_true (Nat.le_trans h.dep hn)]
  rfl
theorem shp_int {i : Int} : SeqAt.shaped (.int i) = true := (Shp.int (n := 0)).ok
theorem shp_nil {ds : List D} (h : ds = []) : Shp 1 (.tuple ds) := Shp.tup (n := 0) fun d hd => by rw [h] at hd; cases hd
/-- equality of data -/
theorem eqD_shp {a b : D} {n : Nat} (ha : Shp n a) (hb : Shp n b) (hn : n ≤ 64) (hs : ∀ x, a ≠ .str x) (hs' : ∀ x, b ≠ .str x) : eqD a b = some (PyData.eqv a b) := by
  unfold eqD
  split
  all_goals first
    | (exact absurd rfl (hs _))
    | (exact absurd rfl (hs' _))
    | (rw [ha.ok hn, hb.ok hn]; rfl)
theorem eqD_tup {n : Nat} {xs ys : List D} (ha : Shp n (.tuple xs)) (hb : Shp n (.tuple ys)) (hn : n ≤ 64 := by omega) : eqD (.tuple xs) (.tuple ys) = some (PyData.eqvAll xs ys) := eqD_shp ha hb hn (fun _ h => by cases h) (fun _ h => by cases h)
theorem eqD_lst {n : Nat} {xs ys : List D} (ha : Shp n (.list xs)) (hb : Shp n (.list ys)) (hn : n ≤ 64 := by omega) : eqD (.list xs) (.list ys) = some (PyData.eqvAll xs ys) := eqD_shp ha hb hn (fun _ h => by cases h) (fun _ h => by cases h)
/-! ### plain data: no truth, no dict -/
mutual
def pl : Nat → D → Bool
  | _, .none => true
  | _, .int _ => true
  | _, .str x => PyData.strOk x
  | n + 1, .list xs => pls n xs
  | n + 1, .tuple xs => pls n xs
  | _, _ => false
def pls : Nat → List D → Bool
  | _, [] => true
  | n, x :: xs => pl n x && pls n xs
end
theorem pl_int {n : Nat} {i : Int} : pl n (.int i) = true := by cases n <;> rfl
theorem pl_none {n : Nat} : pl n .none = true := by cases n <;> rfl
theorem pl_str {n : Nat} {x : Str} : pl n (.str x) = PyData.strOk x := by cases n <;> rfl
theorem pl_tup {n : Nat} {xs : List D} : pl (n + 1) (.tuple xs) = pls n xs := rfl
theorem pl_lst {n : Nat} {xs : List D} : pl (n + 1) (.list xs) = pls n xs := rfl
theorem pls_nil {n : Nat} : pls n [] = true := by unfold pls; rfl
theorem pls_cons {n : Nat} {x : D} {xs : List D} : pls n (x :: xs) = (pl n x && pls n xs) := by conv => lhs; unfold pls
theorem pls_map {α : Type} {n : Nat} {f : α → D} : ∀ {xs : List α}, (∀ x ∈ xs, pl n (f x) = true) → pls n (xs.map f) = true
  | [], _ => pls_nil
  | x :: xs, h => by rw [List.map_cons, pls_cons, h x List.mem_cons_self, pls_map fun y hy => h y (List.mem_cons_of_mem _ hy)]; rfl
theorem pls_intL {n : Nat} {ns : List Int} : pls n (intL ns) = true := pls_map fun _ _ => pl_int
theorem pls_app {n : Nat} {xs ys : List D} : pls n (xs ++ ys) = (pls n xs && pls n ys) := by
  induction xs with
  | nil => rw [List.nil_append, pls_nil, Bool.true_and]
  | cons x xs ih => rw [List.cons_append, pls_cons, pls_cons, ih, Bool.and_assoc]
mutual
theorem pl_shp : ∀ {n : Nat} (d : D), pl n d = true → Shp n d
  | _, .none, _ => .none
  | _, .int _, _ => .int
  | _, .str x, h => .str (by rw [pl_str] at h; exact h)
  | n + 1, .list xs, h => Shp.lst (pls_shp xs h)
  | n + 1, .tuple xs, h => Shp.tup (pls_shp xs h)
  | 0, .list _, h => by cases h
  | 0, .tuple _, h => by cases h
  | 0, .bool _, h => by cases h
  | _ + 1, .bool _, h => by cases h
  | 0, .dict _, h => by cases h
  | _ + 1, .dict _, h => by cases h
theorem pls_shp : ∀ {n : Nat} (ds : List D), pls n ds = true → ∀ d ∈ ds, Shp n d
  | _, [], _, _, hd => by cases hd
  | n, x :: xs, h, d, hd => by
    rw [pls_cons, Bool.and_eq_true] at h
    have h1 := pl_shp x h.1
    have h2 := pls_shp xs h.2
    rcases List.mem_cons.mp hd with q | q
    · rw [q]; exact h1
    · exact h2 d q
end
mutual
theorem eqv_pl : ∀ {n m : Nat} (a b : D), pl n a = true → pl m b = true → (PyData.eqv a b = true ↔ a = b)
  | _, _, .none, b, _, hb => by cases b <;> simp [PyData.eqv]
  | _, m, .int i, b, _, hb => by
    cases b with
    | bool b => cases m <;> cases hb
    | int j => simp [PyData.eqv]
    | _ => simp [PyData.eqv]
  | _, _, .str x, b, _, hb => by cases b <;> simp [PyData.eqv]
  | 0, _, .list xs, b, h, _ => by cases h
  | 0, _, .tuple xs, b, h, _ => by cases h
  | n + 1, m, .list xs, b, h, hb => by
    cases b with
    | list ys =>
      cases m with
      | zero => cases hb
      | succ m => simp only [PyData.eqv, PyData.list.injEq]; exact eqvAll_pl xs ys h hb
    | _ => simp [PyData.eqv]
  | n + 1, m, .tuple xs, b, h, hb => by
    cases b with
    | tuple ys =>
      cases m with
      | zero => cases hb
      | succ m => simp only [PyData.eqv, PyData.tuple.injEq]; exact eqvAll_pl xs ys h hb
    | _ => simp [PyData.eqv]
  | 0, _, .bool _, _, h, _ => by cases h
  | _ + 1, _, .bool _, _, h, _ => by cases h
  | 0, _, .dict _, _, h, _ => by cases h
  | _ + 1, _, .dict _, _, h, _ => by cases h
theorem eqvAll_pl : ∀ {n m : Nat} (xs ys : List D), pls n xs = true → pls m ys = true → (PyData.eqvAll xs ys = true ↔ xs = ys)
  | _, _, [], [], _, _ => by simp [PyData.eqvAll]
  | _, _, [], _ :: _, _, _ => by simp [PyData.eqvAll]
  | _, _, _ :: _, [], _, _ => by simp [PyData.eqvAll]
  | n, m, x :: xs, y :: ys, h, hb => by
    rw [pls_cons, Bool.and_eq_true] at h hb
    simp only [PyData.eqvAll, Bool.and_eq_true, List.cons.injEq]
    rw [eqv_pl x y h.1 hb.1, eqvAll_pl xs ys h.2 hb.2]
end
open Classical in
theorem eqD_pl {a b : D} (n : Nat) (ha : pl n a = true) (hb : pl n b = true) (hn : n ≤ 64 := by omega) : eqD a b = some (decide (a = b)) := by
  have e : PyData.eqv a b = decide (a = b) := by
    by_cases h : a = b
    · rw [decide_eq_true h]; exact (eqv_pl a b ha hb).mpr h
    · rw [decide_eq_false h]
      cases q : PyData.eqv a b with
      | false => rfl
      | true => exact absurd ((eqv_pl a b ha hb).mp q) h
  rw [← e]
  have s1 := (pl_shp a ha).ok hn
  have s2 := (pl_shp b hb).ok hn
  cases a <;> cases b <;> first | rfl | (unfold eqD; simp only [s1, s2, Bool.and_self, if_true])
/-- a list beside the empty one -/
theorem eqD_nilL (xs : List D) : eqD (.list xs) (.list []) = some (decide (xs = [])) := by
  have s2 : SeqAt.shaped (.list []) = true := (Shp.lst (n := 0) (ds := []) fun d hd => by cases hd).ok
  cases xs with
  | nil =>
    show (if SeqAt.shaped (.list []) && SeqAt.shaped (.list []) then some (PyData.eqv (.list []) (.list [])) else lenD (.list []) (.list [])) = _
    rw [s2]
    simp [PyData.eqv, PyData.eqvAll]
  | cons x xs =>
    show (if SeqAt.shaped (.list (x :: xs)) && SeqAt.shaped (.list []) then some (PyData.eqv (.list (x :: xs)) (.list [])) else lenD (.list (x :: xs)) (.list [])) = _
    split
    · simp [PyData.eqv, PyData.eqvAll]
    · simp [lenD]
open Classical in
theorem inD_pl {x : D} {ds : List D} (n : Nat) (hx : pl n x = true) (hd : pls n ds = true) (hn : n + 1 ≤ 64 := by omega) : inD x (.list ds) = some (decide (x ∈ ds)) ∧ inD x (.tuple ds) = some (decide (x ∈ ds)) := by
  have e : (ds.any fun z => PyData.eqv z x) = decide (x ∈ ds) := by
    rw [Bool.eq_iff_iff, List.any_eq_true, decide_eq_true_iff]
    constructor
    · rintro ⟨z, hz, h⟩
      have hz' : pl n z = true := by
        clear h
        induction ds with
        | nil => cases hz
        | cons y ys ih =>
          rw [pls_cons, Bool.and_eq_true] at hd
          rcases List.mem_cons.mp hz with rfl | hz
          · exact hd.1
          · exact ih hd.2 hz
      rw [← (eqv_pl z x hz' hx).mp h]
      exact hz
    · intro h
      refine ⟨x, h, (eqv_pl x x hx hx).mpr rfl⟩
  have s1 := (pl_shp x hx).ok (by omega)
  have s2 := (Shp.lst (pls_shp ds hd)).ok hn
  have s3 := (Shp.tup (pls_shp ds hd)).ok hn
  constructor
  · unfold inD; simp only [s1, s2, Bool.and_self, if_true, e]
  · unfold inD; simp only [s1, s3, Bool.and_self, if_true, e]
theorem intL_inj {a b : List Int} : intL a = intL b ↔ a = b := by
  constructor
  · intro h
    unfold intL at h
    induction a generalizing b with
    | nil => cases b with | nil => rfl | cons _ _ => cases h
    | cons x xs ih => cases b with
      | nil => cases h
      | cons y ys =>
        simp only [List.map_cons, List.cons.injEq, PyData.int.injEq] at h
        rw [h.1, ih h.2]
  · rintro rfl; rfl
theorem eqvAll_nil_r (xs : List D) : PyData.eqvAll xs [] = decide (xs = []) := by cases xs <;> rfl
end
end Ev

-- Pg
/-! The defs that the laws share: the IR. -/
namespace Pg
open PySem L2 Ev
noncomputable section
def fuel : Nat := 1000000000000
def x__law_lines__1_0 : Ev.E := .lc [("size", 7)] (.nm 7) (.lst (.var 0)) none (.bin .add (.var 6) (.tup (.cons (.var 7) .nil)))
def x__law_lines__1_1 : Ev.Ss := .cons (.expr (.ext 5 x__law_lines__1_0))
    .nil
def x__law_lines__1_2 : Ev.S := .for_ [6] (.nm 6) (.lst (.var 3)) x__law_lines__1_1
def x__law_lines__1_3 : Ev.Ss := .cons (.asg 5 true (.lst .nil))
    (.cons x__law_lines__1_2
    (.cons (.asg 2 false (.bin .add (.var 2) (.var 5)))
    (.cons (.asg 3 false (.bi .list (.cons (.var 5) .nil)))
    .nil)))
def x__law_lines__1_4 : Ev.S := .for_ [4, 5, 6] (.nm 4) (.rng1 (.var 1)) x__law_lines__1_3
/-- _law_lines(sizes, most): slots 0=sizes 1=most 2=lines 3=last 4=k 5=longer 6=line 7=size -/
def c__law_lines__1 : Def := { pars := [none, none], more := 6, body :=
    (.cons (.asg 2 false (.lst (.cons (.tup .nil) .nil)))
    (.cons (.asg 3 false (.lst (.cons (.tup .nil) .nil)))
    (.cons x__law_lines__1_4
    (.cons (.ret (.bi .srt (.cons (.var 2) .nil)))
    .nil)))) }
def f__law_lines__1 : Fn := c__law_lines__1.run fuel
def x__law_all_comers__1_0 : Ev.E := .lc [("singles", 3)] (.nm 3) (.rng1 (.bin .add (.idx (.idx (.var 0) (.cst (.int 3))) (.cst (.int 1))) (.cst (.int 1)))) none (.tup (.cons (.var 2) (.cons (.var 3) .nil)))
def x__law_all_comers__1_1 : Ev.Ss := .cons (.expr (.ext 1 x__law_all_comers__1_0))
    .nil
def x__law_all_comers__1_2 : Ev.S := .for_ [2] (.nm 2) (.lst (.call "_law_lines" f__law_lines__1 [] (.val (.idx (.var 0) (.cst (.int 1))) (.val (.idx (.idx (.var 0) (.cst (.int 3))) (.cst (.int 0))) .nil)))) x__law_all_comers__1_1
/-- _law_all_comers(setup): slots 0=setup 1=rows 2=line 3=singles -/
def c__law_all_comers__1 : Def := { pars := [none], more := 3, body :=
    (.cons (.asg 1 true (.lst .nil))
    (.cons x__law_all_comers__1_2
    (.cons (.ret (.var 1))
    .nil))) }
def f__law_all_comers__1 : Fn := c__law_all_comers__1.run fuel
/-- _law_fits(row, mood, front, left, singles): slots 0=row 1=mood 2=front 3=left 4=singles -/
def c__law_fits__2 : Def := { pars := [none, none, none, none, none], more := 0, body :=
    (.cons (.ifs (.bool false (.cons (.cmp .ne (.idx (.var 0) (.cst (.int 0))) (.var 1)) (.cons (.not_ (.chn .le .le (.idx (.idx (.var 0) (.cst (.int 1))) (.cst (.int 0))) (.var 2) (.idx (.idx (.var 0) (.cst (.int 1))) (.cst (.int 1))))) .nil))) (.cons (.ret (.cst (.bool false)))
    .nil) .nil)
    (.cons (.ifs (.bool false (.cons (.not_ (.chn .le .le (.idx (.idx (.var 0) (.cst (.int 2))) (.cst (.int 0))) (.var 3) (.idx (.idx (.var 0) (.cst (.int 2))) (.cst (.int 1))))) (.cons (.not_ (.chn .le .le (.idx (.idx (.var 0) (.cst (.int 3))) (.cst (.int 0))) (.var 4) (.idx (.idx (.var 0) (.cst (.int 3))) (.cst (.int 1))))) .nil))) (.cons (.ret (.cst (.bool false)))
    .nil) .nil)
    (.cons (.ifs (.cmp .eq (.idx (.var 0) (.cst (.int 4))) (.cst (.str "group"))) (.cons (.ret (.chn .lt .le (.cst (.int 0)) (.var 2) (.var 3)))
    .nil) .nil)
    (.cons (.ifs (.cmp .eq (.idx (.var 0) (.cst (.int 4))) (.cst (.str "single"))) (.cons (.ret (.bool true (.cons (.cmp .gt (.var 4) (.cst (.int 0))) (.cons (.cmp .gt (.var 3) (.cst (.int 0))) .nil))))
    .nil) .nil)
    (.cons (.ret (.bool false (.cons (.cmp .eq (.idx (.var 0) (.cst (.int 4))) (.cst (.str "go"))) (.cons (.chn .gt .gt (.var 2) (.var 3) (.cst (.int 0))) .nil))))
    .nil))))) }
def f__law_fits__2 : Fn := c__law_fits__2.run fuel
def x__law_filled_0 : Ev.E := .lc [("row", 9)] (.nm 9) (.lst (.var 0)) (some (.tru (.call "_law_fits" f__law_fits__2 [] (.val (.var 9) (.val (.var 4) (.val (.var 7) (.val (.var 3) (.val (.var 2) .nil)))))))) (.var 9)
def x__law_filled_1 : Ev.Ss := .cons (.asg 7 false (.idx (.bin .add (.var 1) (.lst (.cons (.cst (.int 0)) .nil))) (.cst (.int 0))))
    (.cons (.asg 8 false x__law_filled_0)
    (.cons (.ifs (.cmp .eq (.var 8) (.lst .nil)) (.cons (.ret (.tup (.cons (.bi .tuple (.cons (.var 5) .nil)) (.cons (.var 3) (.cons (.bi .tuple (.cons (.var 1) .nil)) (.cons (.var 2) (.cons (.var 4) .nil)))))))
    .nil) .nil)
    (.cons (.asg 4 false (.idx (.idx (.var 8) (.cst (.int 0))) (.cst (.int 5))))
    (.cons (.ifs (.cmp .eq (.idx (.idx (.var 8) (.cst (.int 0))) (.cst (.int 4))) (.cst (.str "go"))) (.cons (.ret (.tup (.cons (.bi .tuple (.cons (.var 5) .nil)) (.cons (.var 3) (.cons (.bi .tuple (.cons (.var 1) .nil)) (.cons (.var 2) (.cons (.var 4) .nil)))))))
    .nil) .nil)
    (.cons (.ifs (.cmp .eq (.idx (.idx (.var 8) (.cst (.int 0))) (.cst (.int 4))) (.cst (.str "group"))) (.cons (.expr (.app 5 (.tup (.cons (.cst (.str "group")) (.cons (.var 7) .nil)))))
    (.cons (.asg 3 false (.bin .sub (.var 3) (.var 7)))
    (.cons (.asg 1 false (.slc (.var 1) (.so (.cst (.int 1))) .no))
    .nil))) (.cons (.ifs (.cmp .eq (.idx (.idx (.var 8) (.cst (.int 0))) (.cst (.int 4))) (.cst (.str "single"))) (.cons (.expr (.app 5 (.tup (.cons (.cst (.str "single")) (.cons (.cst (.int 1)) .nil)))))
    (.cons (.asg 3 false (.bin .sub (.var 3) (.cst (.int 1))))
    (.cons (.asg 2 false (.bin .sub (.var 2) (.cst (.int 1))))
    .nil))) (.cons (.expr (.app 5 (.tup (.cons (.cst (.str "part")) (.cons (.var 3) .nil)))))
    (.cons (.asg 1 false (.bin .add (.lst (.cons (.bin .sub (.var 7) (.var 3)) .nil)) (.slc (.var 1) (.so (.cst (.int 1))) .no)))
    (.cons (.asg 3 false (.cst (.int 0)))
    .nil))))
    .nil))
    .nil)))))
def x__law_filled_2 : Ev.S := .for_ [6, 7, 8] (.nm 6) (.rng1 (.cst (.int 7))) x__law_filled_1
/-- _law_filled(rule, line, singles, left, mood): slots 0=rule 1=line 2=singles 3=left 4=mood 5=deeds 6=step 7=front 8=fitting 9=row -/
def c__law_filled : Def := { pars := [none, none, none, none, none], more := 5, body :=
    (.cons (.asg 5 true (.lst .nil))
    (.cons x__law_filled_2
    (.cons (.ret (.tup (.cons (.bi .tuple (.cons (.var 5) .nil)) (.cons (.var 3) (.cons (.bi .tuple (.cons (.var 1) .nil)) (.cons (.var 2) (.cons (.var 4) .nil)))))))
    .nil))) }
def f__law_filled : Fn := c__law_filled.run fuel
def x__law_beat__2_0 : Ev.Ss := .cons (.ifs (.cmp .lt (.bi .len (.cons (.var 5) .nil)) (.idx (.idx (.var 0) (.cst (.int 2))) (.cst (.int 0)))) (.cons (.expr (.app 5 (.var 9)))
    .nil) (.cons (.augI 8 (.cst (.int 0)) .add (.cst (.int 1)))
    .nil))
    .nil
def x__law_beat__2_1 : Ev.S := .for_ [9] (.nm 9) (.lst (.idx (.var 3) (.cst (.int 0)))) x__law_beat__2_0
def x__law_beat__2_2 : Ev.Ss := .cons (.ifs (.cmp .lt (.var 6) (.idx (.idx (.var 0) (.cst (.int 2))) (.cst (.int 1)))) (.cons (.asg 6 false (.bin .add (.var 6) (.cst (.int 1))))
    .nil) (.cons (.augI 8 (.cst (.int 1)) .add (.cst (.int 1)))
    .nil))
    .nil
def x__law_beat__2_3 : Ev.S := .for_ [10] (.nm 10) (.rng1 (.idx (.var 3) (.cst (.int 1)))) x__law_beat__2_2
def t__law_beat__2_5 : Ev.Ss := .cons (.asgT (.tup [(.nm 11), (.nm 12), (.nm 5), (.nm 6), (.nm 7)]) (.call "_law_filled" f__law_filled [] (.val (.var 1) (.val (.var 5) (.val (.var 6) (.val (.idx (.idx (.var 0) (.cst (.int 0))) (.var 4)) (.val (.var 7) .nil)))))))
    (.cons (.asg 13 false (.cst (.int 0)))
    (.cons (.ifs (.bool false (.cons (.cmp .ne (.var 5) (.tup .nil)) (.cons (.cmp .gt (.var 6) (.cst (.int 0))) .nil))) (.cons (.asg 13 false (.var 12))
    .nil) .nil)
    (.cons (.ret (.tup (.cons (.tup (.cons (.var 11) (.cons (.var 12) (.cons (.var 13) (.cons (.bi .tuple (.cons (.var 8) .nil)) .nil))))) (.cons (.tup (.cons (.bin .mod (.bin .add (.var 4) (.cst (.int 1))) (.bi .len (.cons (.idx (.var 0) (.cst (.int 0))) .nil))) (.cons (.var 5) (.cons (.var 6) (.cons (.var 7) .nil))))) .nil))))
    .nil)))
/-- _law_beat(setup, rule, state, comers): slots 0=setup 1=rule 2=state 3=comers 4=turn 5=line 6=singles 7=mood 8=away 9=size 10=k 11=deeds 12=left 13=lost -/
def c__law_beat__2 : Def := { pars := [none, none, none, none], more := 10, body :=
    (.cons (.asgT (.tup [(.nm 4), (.nm 5), (.nm 6), (.nm 7)]) (.var 2))
    (.cons (.asg 5 true (.bi .list (.cons (.var 5) .nil)))
    (.cons (.asg 8 true (.lst (.cons (.cst (.int 0)) (.cons (.cst (.int 0)) .nil))))
    (.cons x__law_beat__2_1
    (.cons x__law_beat__2_3
    t__law_beat__2_5))))) }
def f__law_beat__2 : Fn := c__law_beat__2.run fuel
/-- _law_standing(state): slots 0=state -/
def c__law_standing : Def := { pars := [none], more := 0, body :=
    (.cons (.ifs (.cmp .eq (.idx (.var 0) (.cst (.int 1))) (.tup .nil)) (.cons (.ret (.tup (.cons (.idx (.var 0) (.cst (.int 0))) (.cons (.cst (.int 0)) (.cons (.cst (.int 0)) (.cons (.idx (.var 0) (.cst (.int 2))) (.cons (.idx (.var 0) (.cst (.int 3))) .nil)))))))
    .nil) .nil)
    (.cons (.ret (.tup (.cons (.idx (.var 0) (.cst (.int 0))) (.cons (.idx (.idx (.var 0) (.cst (.int 1))) (.cst (.int 0))) (.cons (.bin .sub (.bi .len (.cons (.idx (.var 0) (.cst (.int 1))) .nil)) (.cst (.int 1))) (.cons (.idx (.var 0) (.cst (.int 2))) (.cons (.idx (.var 0) (.cst (.int 3))) .nil)))))))
    .nil)) }
def f__law_standing : Fn := c__law_standing.run fuel
/-- _law_whole(thing, low, high): slots 0=thing 1=low 2=high -/
def c__law_whole : Def := { pars := [none, none, none], more := 0, body :=
    (.cons (.ret (.bool true (.cons (.isi .int (.var 0)) (.cons (.not_ (.isi .bool (.var 0))) (.cons (.chn .le .le (.var 1) (.var 0) (.var 2)) .nil)))))
    .nil) }
def f__law_whole : Fn := c__law_whole.run fuel
/-- _law_take(deck, many): slots 0=deck 1=many 2=one 3=stir -/
def c__law_take : Def := { pars := [some 0, none], more := 2, body :=
    (.cons (.ifs (.cmp .gt (.idx (.var 0) (.cst (.int 0))) (.cst (.int 0))) (.cons (.asg 2 false (.bin .mod (.bi .int (.cons (.idx (.var 0) (.cst (.int 0))) .nil)) (.var 1)))
    (.cons (.setI 0 (.cst (.int 0)) (.bin .fdiv (.idx (.var 0) (.cst (.int 0))) (.var 1)))
    (.cons (.ret (.var 2))
    .nil))) .nil)
    (.fgt [2] (.cons (.setI 0 (.cst (.int 1)) (.bin .mod (.bi .int (.cons (.bin .mul (.idx (.var 0) (.cst (.int 1))) (.cst (.int 48271))) .nil)) (.cst (.int 2147483647))))
    (.cons (.asg 3 false (.bin .mod (.bi .int (.cons (.bin .mul (.idx (.var 0) (.cst (.int 1))) (.idx (.var 0) (.cst (.int 1)))) .nil)) (.cst (.int 2147483629))))
    (.cons (.ret (.bin .mod (.bin .fdiv (.bin .mod (.bi .int (.cons (.bin .mul (.var 3) (.cst (.int 40692))) .nil)) (.cst (.int 2147483399))) (.cst (.int 8))) (.var 1)))
    .nil))))) }
def f__law_take : Fn := c__law_take.run fuel
def x__law_sizes_0 : Ev.E := .lc [("size", 4)] (.nm 4) (.rng2 (.cst (.int 1)) (.bin .add (.var 1) (.cst (.int 1)))) (some (.cmp .eq (.call "_law_take" f__law_take [] (.io 0 (.val (.cst (.int 2)) .nil))) (.cst (.int 1)))) (.var 4)
/-- _law_sizes(deck, most, many): slots 0=deck 1=most 2=many 3=sizes 4=size -/
def c__law_sizes : Def := { pars := [some 0, none, none], more := 2, body :=
    (.cons (.asg 3 false x__law_sizes_0)
    (.cons (.ifs (.cmp .eq (.var 3) (.lst .nil)) (.cons (.asg 3 false (.lst (.cons (.bin .add (.cst (.int 1)) (.call "_law_take" f__law_take [] (.io 0 (.val (.var 1) .nil)))) .nil)))
    .nil) .nil)
    (.cons (.ret (.bi .tuple (.cons (.slc (.var 3) .no (.so (.var 2))) .nil)))
    .nil))) }
def f__law_sizes : Fn := c__law_sizes.run fuel
def x__law_any_setup_0 : Ev.E := .lc [("k", 4)] (.nm 4) (.rng1 (.bin .add (.cst (.int 1)) (.call "_law_take" f__law_take [] (.io 0 (.val (.cst (.int 2)) .nil))))) none (.bin .add (.cst (.int 1)) (.call "_law_take" f__law_take [] (.io 0 (.val (.cst (.int 5)) .nil))))
/-- _law_any_setup(deck): slots 0=deck 1=seats 2=sizes 3=rooms 4=k -/
def c__law_any_setup : Def := { pars := [some 0], more := 4, body :=
    (.cons (.asg 1 false (.bi .tuple (.cons x__law_any_setup_0 .nil)))
    (.cons (.asg 2 false (.call "_law_sizes" f__law_sizes [] (.io 0 (.val (.cst (.int 5)) (.val (.cst (.int 3)) .nil)))))
    (.cons (.asg 3 false (.tup (.cons (.bin .add (.cst (.int 1)) (.call "_law_take" f__law_take [] (.io 0 (.val (.cst (.int 3)) .nil)))) (.cons (.call "_law_take" f__law_take [] (.io 0 (.val (.cst (.int 5)) .nil))) .nil))))
    (.cons (.ret (.tup (.cons (.var 1) (.cons (.var 2) (.cons (.var 3) (.cons (.tup (.cons (.call "_law_take" f__law_take [] (.io 0 (.val (.cst (.int 3)) .nil))) (.cons (.call "_law_take" f__law_take [] (.io 0 (.val (.cst (.int 3)) .nil))) .nil))) .nil))))))
    .nil)))) }
def f__law_any_setup : Fn := c__law_any_setup.run fuel
def x__law_any_state__1_0 : Ev.E := .lc [("k", 3)] (.nm 3) (.rng1 (.call "_law_take" f__law_take [] (.io 0 (.val (.bin .add (.idx (.idx (.var 1) (.cst (.int 2))) (.cst (.int 0))) (.cst (.int 1))) .nil)))) none (.bin .add (.cst (.int 1)) (.call "_law_take" f__law_take [] (.io 0 (.val (.cst (.int 5)) .nil))))
/-- _law_any_state(deck, setup): slots 0=deck 1=setup 2=line 3=k -/
def c__law_any_state__1 : Def := { pars := [some 0, none], more := 2, body :=
    (.cons (.asg 2 false (.bi .tuple (.cons x__law_any_state__1_0 .nil)))
    (.cons (.ret (.tup (.cons (.call "_law_take" f__law_take [] (.io 0 (.val (.bi .len (.cons (.idx (.var 1) (.cst (.int 0))) .nil)) .nil))) (.cons (.var 2) (.cons (.call "_law_take" f__law_take [] (.io 0 (.val (.bin .add (.idx (.idx (.var 1) (.cst (.int 2))) (.cst (.int 1))) (.cst (.int 1))) .nil))) (.cons (.call "_law_take" f__law_take [] (.io 0 (.val (.cst (.int 3)) .nil))) .nil))))))
    .nil)) }
def f__law_any_state__1 : Fn := c__law_any_state__1.run fuel
def x__law_comers__1_0 : Ev.E := .lc [("k", 3)] (.nm 3) (.rng1 (.call "_law_take" f__law_take [] (.io 0 (.val (.bin .add (.idx (.idx (.var 1) (.cst (.int 3))) (.cst (.int 0))) (.cst (.int 1))) .nil)))) none (.idx (.idx (.var 1) (.cst (.int 1))) (.call "_law_take" f__law_take [] (.io 0 (.val (.bi .len (.cons (.idx (.var 1) (.cst (.int 1))) .nil)) .nil))))
/-- _law_comers(deck, setup): slots 0=deck 1=setup 2=groups 3=k -/
def c__law_comers__1 : Def := { pars := [some 0, none], more := 2, body :=
    (.cons (.asg 2 false x__law_comers__1_0)
    (.cons (.ret (.tup (.cons (.bi .tuple (.cons (.var 2) .nil)) (.cons (.call "_law_take" f__law_take [] (.io 0 (.val (.bin .add (.idx (.idx (.var 1) (.cst (.int 3))) (.cst (.int 1))) (.cst (.int 1))) .nil))) .nil))))
    .nil)) }
def f__law_comers__1 : Fn := c__law_comers__1.run fuel
/-- _law_odd(deck): slots 0=deck 1=odd -/
def c__law_odd : Def := { pars := [some 0], more := 1, body :=
    (.cons (.asg 1 false (.lst (.cons (.cst .none) (.cons (.cst (.bool true)) (.cons (.cst (.bool false)) (.cons (.cst (.str "")) (.cons (.cst (.str "2")) (.cons (.tup .nil) (.cons (.lst .nil) (.cons .dnew (.cons (.tup (.cons (.cst (.int 1)) .nil)) (.cons (.lst (.cons (.cst (.int 1)) .nil)) (.cons (.neg (.cst (.int 1))) (.cons (.cst (.str "group")) (.cons (.tup (.cons (.cst (.int 0)) (.cons (.cst (.int 0)) .nil))) (.cons (.lst (.cons (.tup (.cons (.cst (.int 1)) (.cons (.cst (.int 2)) .nil))) .nil)) (.cons (.odict 1 2) (.cons (.tup (.cons (.tup .nil) .nil)) .nil))))))))))))))))))
    (.cons (.ret (.idx (.var 1) (.call "_law_take" f__law_take [] (.io 0 (.val (.bi .len (.cons (.var 1) .nil)) .nil)))))
    .nil)) }
def f__law_odd : Fn := c__law_odd.run fuel
/-- _law_bad_comers(deck, setup): slots 0=deck 1=setup 2=groups 3=singles 4=kind 5=at 6=size -/
def c__law_bad_comers : Def := { pars := [some 0, none], more := 5, body :=
    (.cons (.asgT (.tup [(.nm 2), (.nm 3)]) (.call "_law_comers" f__law_comers__1 [] (.io 0 (.val (.var 1) .nil))))
    (.cons (.asg 4 false (.call "_law_take" f__law_take [] (.io 0 (.val (.cst (.int 8)) .nil))))
    (.cons (.ifs (.cmp .eq (.var 4) (.cst (.int 0))) (.cons (.ret (.idx (.lst (.cons (.tup (.cons (.bi .list (.cons (.var 2) .nil)) (.cons (.var 3) .nil))) (.cons (.lst (.cons (.var 2) (.cons (.var 3) .nil))) (.cons (.tup (.cons (.var 2) .nil)) (.cons (.tup (.cons (.var 2) (.cons (.var 3) (.cons (.cst (.int 0)) .nil)))) .nil))))) (.call "_law_take" f__law_take [] (.io 0 (.val (.cst (.int 4)) .nil)))))
    .nil) .nil)
    (.cons (.ifs (.cmp .eq (.var 4) (.cst (.int 1))) (.cons (.ret (.tup (.cons (.var 2) (.cons (.idx (.lst (.cons (.neg (.cst (.int 1))) (.cons (.cst (.bool true)) (.cons (.cst .none) (.cons (.cst (.str "1")) (.cons (.bin .add (.idx (.idx (.var 1) (.cst (.int 3))) (.cst (.int 1))) (.cst (.int 1))) (.cons (.tup (.cons (.cst (.int 1)) .nil)) .nil))))))) (.call "_law_take" f__law_take [] (.io 0 (.val (.cst (.int 6)) .nil)))) .nil))))
    .nil) .nil)
    (.cons (.ifs (.cmp .eq (.var 4) (.cst (.int 2))) (.cons (.ret (.tup (.cons (.bin .add (.var 2) (.bin .mul (.tup (.cons (.idx (.idx (.var 1) (.cst (.int 1))) (.cst (.int 0))) .nil)) (.bin .sub (.bin .add (.cst (.int 1)) (.idx (.idx (.var 1) (.cst (.int 3))) (.cst (.int 0)))) (.bi .len (.cons (.var 2) .nil))))) (.cons (.var 3) .nil))))
    .nil) .nil)
    (.cons (.ifs (.cmp .eq (.var 4) (.cst (.int 3))) (.cons (.ret (.call "_law_odd" f__law_odd [] (.io 0 .nil)))
    .nil) .nil)
    (.cons (.ifs (.cmp .eq (.var 4) (.cst (.int 4))) (.cons (.ret (.tup (.cons (.var 3) (.cons (.var 2) .nil))))
    .nil) .nil)
    (.cons (.asg 5 false (.call "_law_take" f__law_take [] (.io 0 (.val (.bin .add (.bi .len (.cons (.var 2) .nil)) (.cst (.int 1))) .nil))))
    (.cons (.asg 6 false (.idx (.lst (.cons (.call "_law_take" f__law_take [] (.io 0 (.val (.cst (.int 8)) .nil))) (.cons (.cst (.bool true)) (.cons (.cst (.str "1")) (.cons (.cst .none) (.cons (.idx (.idx (.var 1) (.cst (.int 1))) (.cst (.int 0))) .nil)))))) (.call "_law_take" f__law_take [] (.io 0 (.val (.cst (.int 5)) .nil)))))
    (.cons (.ret (.tup (.cons (.bin .add (.bin .add (.slc (.var 2) .no (.so (.var 5))) (.tup (.cons (.var 6) .nil))) (.slc (.var 2) (.so (.bin .add (.var 5) (.cst (.int 1)))) .no)) (.cons (.var 3) .nil))))
    .nil)))))))))) }
def f__law_bad_comers : Fn := c__law_bad_comers.run fuel
/-- _law_range(deck): slots 0=deck 1=kind 2=low -/
def c__law_range : Def := { pars := [some 0], more := 2, body :=
    (.cons (.asg 1 false (.call "_law_take" f__law_take [] (.io 0 (.val (.cst (.int 3)) .nil))))
    (.cons (.ifs (.cmp .eq (.var 1) (.cst (.int 0))) (.cons (.ret (.tup (.cons (.cst (.int 0)) (.cons (.cst (.int 9)) .nil))))
    .nil) .nil)
    (.cons (.asg 2 false (.call "_law_take" f__law_take [] (.io 0 (.val (.cst (.int 6)) .nil))))
    (.cons (.ifs (.cmp .eq (.var 1) (.cst (.int 1))) (.cons (.ret (.tup (.cons (.var 2) (.cons (.var 2) .nil))))
    .nil) .nil)
    (.cons (.ret (.tup (.cons (.var 2) (.cons (.bin .add (.var 2) (.call "_law_take" f__law_take [] (.io 0 (.val (.bin .sub (.cst (.int 10)) (.var 2)) .nil)))) .nil))))
    .nil))))) }
def f__law_range : Fn := c__law_range.run fuel
def x__law_rule_0 : Ev.E := .lc [("part", 12)] (.nm 12) (.rng1 (.cst (.int 3))) none (.call "_law_range" f__law_range [] (.io 0 .nil))
def x__law_rule_1 : Ev.Ss := .cons (.asg 7 false x__law_rule_0)
    (.cons (.asg 8 false (.idx (.var 4) (.call "_law_take" f__law_take [] (.io 0 (.val (.bi .len (.cons (.var 4) .nil)) .nil)))))
    (.cons (.expr (.app 5 (.tup (.cons (.call "_law_take" f__law_take [] (.io 0 (.val (.var 2) .nil))) (.cons (.idx (.var 7) (.cst (.int 0))) (.cons (.idx (.var 7) (.cst (.int 1))) (.cons (.idx (.var 7) (.cst (.int 2))) (.cons (.var 8) (.cons (.call "_law_take" f__law_take [] (.io 0 (.val (.var 2) .nil))) .nil)))))))))
    .nil))
def x__law_rule_2 : Ev.S := .for_ [6, 7, 8] (.nm 6) (.rng1 (.call "_law_take" f__law_take [] (.io 0 (.val (.bin .add (.var 1) (.cst (.int 1))) .nil)))) x__law_rule_1
def x__law_rule_3 : Ev.Ss := .cons (.asg 11 false (.idx (.lst (.cons (.tup (.cons (.cst (.int 0)) (.cons (.cst (.int 9)) .nil))) (.cons (.tup (.cons (.cst (.int 0)) (.cons (.cst (.int 9)) .nil))) (.cons (.tup (.cons (.cst (.int 0)) (.cons (.cst (.int 9)) .nil))) (.cons (.call "_law_range" f__law_range [] (.io 0 .nil)) .nil))))) (.call "_law_take" f__law_take [] (.io 0 (.val (.cst (.int 4)) .nil)))))
    (.cons (.expr (.app 5 (.tup (.cons (.var 9) (.cons (.tup (.cons (.cst (.int 0)) (.cons (.cst (.int 9)) .nil))) (.cons (.var 11) (.cons (.tup (.cons (.cst (.int 0)) (.cons (.cst (.int 9)) .nil))) (.cons (.var 8) (.cons (.call "_law_take" f__law_take [] (.io 0 (.val (.var 2) .nil))) .nil)))))))))
    .nil)
def x__law_rule_4 : Ev.S := .for_ [8, 11] (.nm 8) (.lst (.var 10)) x__law_rule_3
def x__law_rule_5 : Ev.Ss := .cons (.asg 10 false (.idx (.lst (.cons (.lst (.cons (.cst (.str "group")) (.cons (.cst (.str "single")) .nil))) (.cons (.lst (.cons (.cst (.str "single")) (.cons (.cst (.str "group")) .nil))) (.cons (.lst (.cons (.cst (.str "group")) .nil)) (.cons (.lst (.cons (.cst (.str "single")) .nil)) .nil))))) (.call "_law_take" f__law_take [] (.io 0 (.val (.cst (.int 4)) .nil)))))
    (.cons (.ifs (.bool true (.cons (.cmp .eq (.var 3) (.cst (.int 1))) (.cons (.cmp .eq (.call "_law_take" f__law_take [] (.io 0 (.val (.cst (.int 3)) .nil))) (.cst (.int 1))) .nil))) (.cons (.asg 10 false (.bin .add (.var 10) (.lst (.cons (.cst (.str "part")) .nil))))
    .nil) .nil)
    (.cons x__law_rule_4
    .nil))
def x__law_rule_6 : Ev.S := .for_ [8, 9, 10, 11] (.nm 9) (.rng1 (.var 2)) x__law_rule_5
/-- _law_rule(deck, most, moods, parts): slots 0=deck 1=most 2=moods 3=parts 4=deeds 5=rows 6=k 7=ranges 8=deed 9=mood 10=order 11=left 12=part -/
def c__law_rule : Def := { pars := [some 0, none, none, none], more := 9, body :=
    (.cons (.asg 4 false (.slc (.lst (.cons (.cst (.str "group")) (.cons (.cst (.str "single")) (.cons (.cst (.str "go")) (.cons (.cst (.str "group")) (.cons (.cst (.str "single")) (.cons (.cst (.str "part")) .nil))))))) .no (.so (.bin .add (.cst (.int 5)) (.var 3)))))
    (.cons (.asg 5 true (.lst .nil))
    (.cons (.ifs (.cmp .eq (.call "_law_take" f__law_take [] (.io 0 (.val (.cst (.int 2)) .nil))) (.cst (.int 1))) (.cons x__law_rule_2
    (.cons (.ret (.bi .tuple (.cons (.var 5) .nil)))
    .nil)) .nil)
    (.fgt [6, 7, 8] (.cons x__law_rule_6
    (.cons (.ret (.bi .tuple (.cons (.slc (.var 5) .no (.so (.cst (.int 8)))) .nil)))
    .nil)))))) }
def f__law_rule : Fn := c__law_rule.run fuel
/-- _law_deck(script, k): slots 0=script 1=k 2=cell -/
def c__law_deck : Def := { pars := [none, none], more := 1, body :=
    (.cons (.asg 2 false (.cst (.int 0)))
    (.cons (.ifs (.cmp .lt (.var 1) (.bi .len (.cons (.var 0) .nil))) (.cons (.asg 2 false (.bi .abs (.cons (.idx (.var 0) (.var 1)) .nil)))
    .nil) .nil)
    (.cons (.ret (.lst (.cons (.bi .max2 (.cons (.cst (.int 0)) (.cons (.bin .sub (.var 2) (.bin .pow (.cst (.int 10)) (.cst (.int 18)))) .nil))) (.cons (.bin .add (.bin .mod (.bi .int (.cons (.bin .add (.var 2) (.bin .mul (.cst (.int 7919)) (.var 1))) .nil)) (.cst (.int 2147483629))) (.cst (.int 1))) .nil))))
    .nil))) }
def f__law_deck : Fn := c__law_deck.run fuel
def x__law_is_comers_0 : Ev.E := .lc [("size", 2)] (.nm 2) (.lst (.idx (.var 1) (.cst (.int 0)))) (some (.bool false (.cons (.not_ (.tru (.call "_law_whole" f__law_whole [] (.val (.var 2) (.val (.cst (.int 1)) (.val (.cst (.int 5)) .nil)))))) (.cons (.cmp .notin (.var 2) (.idx (.var 0) (.cst (.int 1)))) .nil)))) (.var 2)
/-- _law_is_comers(setup, thing): slots 0=setup 1=thing 2=size -/
def c__law_is_comers : Def := { pars := [none, none], more := 1, body :=
    (.cons (.ifs (.bool false (.cons (.not_ (.tru (.isi .tuple (.var 1)))) (.cons (.cmp .ne (.bi .len (.cons (.var 1) .nil)) (.cst (.int 2))) (.cons (.not_ (.tru (.isi .tuple (.idx (.var 1) (.cst (.int 0)))))) .nil)))) (.cons (.ret (.cst (.bool false)))
    .nil) .nil)
    (.cons (.ifs (.bool false (.cons (.cmp .gt (.bi .len (.cons (.idx (.var 1) (.cst (.int 0))) .nil)) (.idx (.idx (.var 0) (.cst (.int 3))) (.cst (.int 0)))) (.cons (.not_ (.tru (.call "_law_whole" f__law_whole [] (.val (.idx (.var 1) (.cst (.int 1))) (.val (.cst (.int 0)) (.val (.idx (.idx (.var 0) (.cst (.int 3))) (.cst (.int 1))) .nil)))))) .nil))) (.cons (.ret (.cst (.bool false)))
    .nil) .nil)
    (.cons (.ret (.cmp .eq x__law_is_comers_0 (.lst .nil)))
    .nil))) }
def f__law_is_comers : Fn := c__law_is_comers.run fuel
def x__law_row__1_0 : Ev.E := .lc [("k", 3)] (.nm 3) (.rng1 (.var 2)) none (.call "_law_comers" f__law_comers__1 [] (.io 0 (.val (.var 1) .nil)))
/-- _law_row(deck, setup, beats): slots 0=deck 1=setup 2=beats 3=k -/
def c__law_row__1 : Def := { pars := [some 0, none, none], more := 1, body :=
    (.cons (.ret x__law_row__1_0)
    .nil) }
def f__law_row__1 : Fn := c__law_row__1.run fuel
def x__law_long_row_0 : Ev.Ss := .cons (.asg 6 true (.call "_law_deck" f__law_deck [] (.val (.var 0) (.val (.var 5) .nil))))
    (.cons (.expr (.ext 4 (.call "_law_row" f__law_row__1 [] (.io 6 (.val (.var 2) (.val (.bin .add (.cst (.int 1)) (.call "_law_take" f__law_take [] (.io 6 (.val (.cst (.int 4)) .nil)))) .nil))))))
    .nil)
def x__law_long_row_1 : Ev.S := .for_ [5, 6] (.nm 5) (.rng2 (.cst (.int 1)) (.bi .min2 (.cons (.bi .len (.cons (.var 0) .nil)) (.cons (.cst (.int 63)) .nil)))) x__law_long_row_0
/-- _law_long_row(script, deck, setup, most): slots 0=script 1=deck 2=setup 3=most 4=row 5=k 6=other -/
def c__law_long_row : Def := { pars := [none, some 0, none, none], more := 3, body :=
    (.cons (.asg 4 true (.call "_law_row" f__law_row__1 [] (.io 1 (.val (.var 2) (.val (.call "_law_take" f__law_take [] (.io 1 (.val (.cst (.int 6)) .nil))) .nil)))))
    (.cons x__law_long_row_1
    (.cons (.ret (.slc (.var 4) .no (.so (.var 3))))
    .nil))) }
def f__law_long_row : Fn := c__law_long_row.run fuel
def x__law_run__2_0 : Ev.Ss := .cons (.asgT (.tup [(.nm 6), (.nm 2)]) (.call "_law_beat" f__law_beat__2 [] (.val (.var 0) (.val (.var 1) (.val (.var 2) (.val (.var 5) .nil))))))
    (.cons (.expr (.app 4 (.var 6)))
    .nil)
def x__law_run__2_1 : Ev.S := .for_ [5, 6] (.nm 5) (.lst (.var 3)) x__law_run__2_0
/-- _law_run(setup, rule, state, row): slots 0=setup 1=rule 2=state 3=row 4=chairs 5=comers 6=chair -/
def c__law_run__2 : Def := { pars := [none, none, none, none], more := 3, body :=
    (.cons (.asg 4 true (.lst .nil))
    (.cons x__law_run__2_1
    (.cons (.ret (.tup (.cons (.var 4) (.cons (.var 2) .nil))))
    .nil))) }
def f__law_run__2 : Fn := c__law_run__2.run fuel
def x__law_setup_right_0 : Ev.Ss := .cons (.ifs (.not_ (.tru (.call "_law_whole" f__law_whole [] (.val (.var 2) (.val (.cst (.int 0)) (.val (.cst (.int 5)) .nil)))))) (.cons (.ret (.cst (.bool false)))
    .nil) .nil)
    .nil
def x__law_setup_right_1 : Ev.S := .for_ [2] (.nm 2) (.lst (.var 1)) x__law_setup_right_0
def x__law_setup_right_2 : Ev.Ss := .cons (.ifs (.bool false (.cons (.not_ (.tru (.isi .tuple (.var 1)))) (.cons (.cmp .gt (.bi .len (.cons (.var 1) .nil)) (.cst (.int 3))) .nil))) (.cons (.ret (.cst (.bool false)))
    .nil) .nil)
    (.cons x__law_setup_right_1
    .nil)
def x__law_setup_right_3 : Ev.S := .for_ [1, 2] (.nm 1) (.lst (.var 0)) x__law_setup_right_2
/-- _law_setup_right(thing): slots 0=thing 1=part 2=number 3=seats 4=sizes 5=rooms 6=comers -/
def c__law_setup_right : Def := { pars := [none], more := 6, body :=
    (.cons (.ifs (.bool false (.cons (.not_ (.tru (.isi .tuple (.var 0)))) (.cons (.cmp .ne (.bi .len (.cons (.var 0) .nil)) (.cst (.int 4))) .nil))) (.cons (.ret (.cst (.bool false)))
    .nil) .nil)
    (.cons x__law_setup_right_3
    (.cons (.asgT (.tup [(.nm 3), (.nm 4), (.nm 5), (.nm 6)]) (.var 0))
    (.cons (.ifs (.bool false (.cons (.cmp .notin (.bi .len (.cons (.var 3) .nil)) (.tup (.cons (.cst (.int 1)) (.cons (.cst (.int 2)) .nil)))) (.cons (.cmp .in_ (.cst (.int 0)) (.var 3)) (.cons (.cmp .eq (.var 4) (.tup .nil)) (.cons (.cmp .in_ (.cst (.int 0)) (.var 4)) .nil))))) (.cons (.ret (.cst (.bool false)))
    .nil) .nil)
    (.cons (.ifs (.bool false (.cons (.cmp .ne (.bi .list (.cons (.var 4) .nil)) (.bi .srt (.cons (.var 4) .nil))) (.cons (.cmp .ne (.lset (.var 4)) (.bi .len (.cons (.var 4) .nil))) (.cons (.cmp .ne (.bi .len (.cons (.var 5) .nil)) (.cst (.int 2))) (.cons (.cmp .ne (.bi .len (.cons (.var 6) .nil)) (.cst (.int 2))) .nil))))) (.cons (.ret (.cst (.bool false)))
    .nil) .nil)
    (.cons (.ret (.bool true (.cons (.chn .le .le (.cst (.int 1)) (.idx (.var 5) (.cst (.int 0))) (.cst (.int 3))) (.cons (.cmp .le (.idx (.var 5) (.cst (.int 1))) (.cst (.int 4))) (.cons (.cmp .le (.idx (.var 6) (.cst (.int 0))) (.cst (.int 2))) (.cons (.cmp .le (.idx (.var 6) (.cst (.int 1))) (.cst (.int 2))) .nil))))))
    .nil)))))) }
def f__law_setup_right : Fn := c__law_setup_right.run fuel
/-- _law_spoiled_tuple(deck, part): slots 0=deck 1=part 2=kind 3=at -/
def c__law_spoiled_tuple : Def := { pars := [some 0, none], more := 2, body :=
    (.cons (.asg 2 false (.call "_law_take" f__law_take [] (.io 0 (.val (.cst (.int 6)) .nil))))
    (.cons (.asg 3 false (.call "_law_take" f__law_take [] (.io 0 (.val (.bin .add (.bi .len (.cons (.var 1) .nil)) (.cst (.int 1))) .nil))))
    (.cons (.ifs (.cmp .eq (.var 2) (.cst (.int 0))) (.cons (.ret (.bi .list (.cons (.var 1) .nil)))
    .nil) .nil)
    (.cons (.ifs (.cmp .eq (.var 2) (.cst (.int 1))) (.cons (.ret (.bin .add (.slc (.var 1) .no (.so (.var 3))) (.slc (.var 1) (.so (.bin .add (.var 3) (.cst (.int 1)))) .no)))
    .nil) .nil)
    (.cons (.ifs (.cmp .eq (.var 2) (.cst (.int 2))) (.cons (.ret (.bin .add (.bin .add (.slc (.var 1) .no (.so (.var 3))) (.tup (.cons (.call "_law_take" f__law_take [] (.io 0 (.val (.cst (.int 7)) .nil))) .nil))) (.slc (.var 1) (.so (.var 3)) .no)))
    .nil) .nil)
    (.cons (.ifs (.cmp .eq (.var 2) (.cst (.int 3))) (.cons (.ret (.rev (.var 1)))
    .nil) .nil)
    (.cons (.ifs (.cmp .eq (.var 2) (.cst (.int 4))) (.cons (.ret (.bin .add (.bin .add (.slc (.var 1) .no (.so (.var 3))) (.tup (.cons (.call "_law_odd" f__law_odd [] (.io 0 .nil)) .nil))) (.slc (.var 1) (.so (.bin .add (.var 3) (.cst (.int 1)))) .no)))
    .nil) .nil)
    (.cons (.ret (.bin .add (.bin .add (.slc (.var 1) .no (.so (.var 3))) (.tup (.cons (.bin .sub (.call "_law_take" f__law_take [] (.io 0 (.val (.cst (.int 13)) .nil))) (.cst (.int 1))) .nil))) (.slc (.var 1) (.so (.bin .add (.var 3) (.cst (.int 1)))) .no)))
    .nil)))))))) }
def f__law_spoiled_tuple : Fn := c__law_spoiled_tuple.run fuel
/-- let_in(setup, line, singles, comers): slots 0=setup 1=line 2=singles 3=comers 4=groups 5=more 6=here 7=waiting -/
def c_let_in : Def := { pars := [none, none, none, none], more := 4, body :=
    (.cons (.asgT (.tup [(.nm 4), (.nm 5)]) (.var 3))
    (.cons (.asg 6 false (.slc (.bin .add (.var 1) (.var 4)) .no (.so (.bi .max2 (.cons (.idx (.idx (.var 0) (.cst (.int 2))) (.cst (.int 0))) (.cons (.bi .len (.cons (.var 1) .nil)) .nil))))))
    (.cons (.asg 7 false (.bi .min2 (.cons (.bi .max2 (.cons (.idx (.idx (.var 0) (.cst (.int 2))) (.cst (.int 1))) (.cons (.var 2) .nil))) (.cons (.bin .add (.var 2) (.var 5)) .nil))))
    (.cons (.ret (.tup (.cons (.var 6) (.cons (.var 7) (.cons (.tup (.cons (.bin .sub (.bin .add (.bi .len (.cons (.var 1) .nil)) (.bi .len (.cons (.var 4) .nil))) (.bi .len (.cons (.var 6) .nil))) (.cons (.bin .sub (.bin .add (.var 2) (.var 5)) (.var 7)) .nil))) .nil)))))
    .nil)))) }
def f_let_in : Fn := c_let_in.run fuel
/-- is_integer(thing): slots 0=thing -/
def c_is_integer : Def := { pars := [none], more := 0, body :=
    (.cons (.ret (.bool true (.cons (.isi .int (.var 0)) (.cons (.not_ (.isi .bool (.var 0))) .nil))))
    .nil) }
def f_is_integer : Fn := c_is_integer.run fuel
/-- is_number(thing, low, high): slots 0=thing 1=low 2=high -/
def c_is_number : Def := { pars := [none, none, none], more := 0, body :=
    (.cons (.ret (.bool true (.cons (.call "is_integer" f_is_integer [] (.val (.var 0) .nil)) (.cons (.chn .le .le (.var 1) (.var 0) (.var 2)) .nil))))
    .nil) }
def f_is_number : Fn := c_is_number.run fuel
/-- is_size(setup, thing): slots 0=setup 1=thing -/
def c_is_size : Def := { pars := [none, none], more := 0, body :=
    (.cons (.ret (.bool true (.cons (.call "is_number" f_is_number [] (.val (.var 1) (.val (.cst (.int 1)) (.val (.cst (.int 5)) .nil)))) (.cons (.cmp .in_ (.var 1) (.idx (.var 0) (.cst (.int 1)))) .nil))))
    .nil) }
def f_is_size : Fn := c_is_size.run fuel
def x_is_comers_0 : Ev.E := .lc [("size", 4)] (.nm 4) (.lst (.var 2)) none (.call "is_size" f_is_size [] (.val (.var 0) (.val (.var 4) .nil)))
/-- is_comers(setup, thing): slots 0=setup 1=thing 2=groups 3=singles 4=size -/
def c_is_comers : Def := { pars := [none, none], more := 3, body :=
    (.cons (.ifs (.bool false (.cons (.not_ (.tru (.isi .tuple (.var 1)))) (.cons (.cmp .ne (.bi .len (.cons (.var 1) .nil)) (.cst (.int 2))) .nil))) (.cons (.ret (.cst (.bool false)))
    .nil) .nil)
    (.cons (.asgT (.tup [(.nm 2), (.nm 3)]) (.var 1))
    (.cons (.ifs (.bool false (.cons (.not_ (.tru (.isi .tuple (.var 2)))) (.cons (.cmp .gt (.bi .len (.cons (.var 2) .nil)) (.idx (.idx (.var 0) (.cst (.int 3))) (.cst (.int 0)))) .nil))) (.cons (.ret (.cst (.bool false)))
    .nil) .nil)
    (.cons (.ret (.bool true (.cons (.bi .all (.cons x_is_comers_0 .nil)) (.cons (.call "is_number" f_is_number [] (.val (.var 3) (.val (.cst (.int 0)) (.val (.idx (.idx (.var 0) (.cst (.int 3))) (.cst (.int 1))) .nil)))) .nil))))
    .nil)))) }
def f_is_comers : Fn := c_is_comers.run fuel
def x_row_fault_0 : Ev.Ss := .cons (.ifs (.not_ (.tru (.call "is_comers" f_is_comers [] (.val (.var 0) (.val (.var 4) .nil))))) (.cons (.ret (.var 3))
    .nil) .nil)
    .nil
def x_row_fault_1 : Ev.S := .for_ [3, 4] (.tup [(.nm 3), (.nm 4)]) (.enum (.slc (.var 1) .no (.so (.var 2)))) x_row_fault_0
/-- row_fault(setup, row, most): slots 0=setup 1=row 2=most 3=place 4=comers -/
def c_row_fault : Def := { pars := [none, none, none], more := 2, body :=
    (.cons (.ifs (.not_ (.tru (.isi .list (.var 1)))) (.cons (.ret (.neg (.cst (.int 1))))
    .nil) .nil)
    (.cons x_row_fault_1
    (.cons (.ifs (.cmp .gt (.bi .len (.cons (.var 1) .nil)) (.var 2)) (.cons (.ret (.var 2))
    .nil) .nil)
    (.cons (.ret (.cst .none))
    .nil)))) }
def f_row_fault : Fn := c_row_fault.run fuel
/-- check_row(setup, row, most): slots 0=setup 1=row 2=most 3=place -/
def c_check_row : Def := { pars := [none, none, none], more := 1, body :=
    (.cons (.asg 3 false (.call "row_fault" f_row_fault [] (.val (.var 0) (.val (.var 1) (.val (.var 2) .nil)))))
    (.cons (.ifs (.cmp .isnot (.var 3) (.cst .none)) (.cons (.raip "BadRow" "place" "" (.var 3))
    .nil) .nil)
    .nil)) }
def f_check_row : Fn := c_check_row.run fuel
def x_are_numbers_0 : Ev.E := .lc [("number", 5)] (.nm 5) (.lst (.var 0)) none (.call "is_number" f_is_number [] (.val (.var 5) (.val (.var 3) (.val (.var 4) .nil))))
/-- are_numbers(thing, least, most, low, high): slots 0=thing 1=least 2=most 3=low 4=high 5=number -/
def c_are_numbers : Def := { pars := [none, none, none, none, none], more := 1, body :=
    (.cons (.ifs (.bool false (.cons (.not_ (.tru (.isi .tuple (.var 0)))) (.cons (.not_ (.chn .le .le (.var 1) (.bi .len (.cons (.var 0) .nil)) (.var 2))) .nil))) (.cons (.ret (.cst (.bool false)))
    .nil) .nil)
    (.cons (.ret (.bi .all (.cons x_are_numbers_0 .nil)))
    .nil)) }
def f_are_numbers : Fn := c_are_numbers.run fuel
/-- are_most(thing, groups_low, groups_high, singles_high): slots 0=thing 1=groups_low 2=groups_high 3=singles_high -/
def c_are_most : Def := { pars := [none, none, none, none], more := 0, body :=
    (.cons (.ifs (.not_ (.tru (.call "are_numbers" f_are_numbers [] (.val (.var 0) (.val (.cst (.int 2)) (.val (.cst (.int 2)) (.val (.cst (.int 0)) (.val (.cst (.int 9)) .nil)))))))) (.cons (.ret (.cst (.bool false)))
    .nil) .nil)
    (.cons (.ret (.bool true (.cons (.chn .le .le (.var 1) (.idx (.var 0) (.cst (.int 0))) (.var 2)) (.cons (.cmp .le (.idx (.var 0) (.cst (.int 1))) (.var 3)) .nil))))
    .nil)) }
def f_are_most : Fn := c_are_most.run fuel
def x_is_setup_0 : Ev.E := .lc [("one", 5), ("other", 6)] (.tup [(.nm 5), (.nm 6)]) (.zip (.var 2) (.slc (.var 2) (.so (.cst (.int 1))) .no)) none (.cmp .lt (.var 5) (.var 6))
/-- is_setup(thing): slots 0=thing 1=seats 2=sizes 3=rooms 4=comers 5=one 6=other -/
def c_is_setup : Def := { pars := [none], more := 6, body :=
    (.cons (.ifs (.bool false (.cons (.not_ (.tru (.isi .tuple (.var 0)))) (.cons (.cmp .ne (.bi .len (.cons (.var 0) .nil)) (.cst (.int 4))) .nil))) (.cons (.ret (.cst (.bool false)))
    .nil) .nil)
    (.cons (.asgT (.tup [(.nm 1), (.nm 2), (.nm 3), (.nm 4)]) (.var 0))
    (.cons (.ifs (.bool false (.cons (.not_ (.tru (.call "are_numbers" f_are_numbers [] (.val (.var 1) (.val (.cst (.int 1)) (.val (.cst (.int 2)) (.val (.cst (.int 1)) (.val (.cst (.int 5)) .nil)))))))) (.cons (.not_ (.tru (.call "are_numbers" f_are_numbers [] (.val (.var 2) (.val (.cst (.int 1)) (.val (.cst (.int 3)) (.val (.cst (.int 1)) (.val (.cst (.int 5)) .nil)))))))) .nil))) (.cons (.ret (.cst (.bool false)))
    .nil) .nil)
    (.cons (.ifs (.not_ (.tru (.bi .all (.cons x_is_setup_0 .nil)))) (.cons (.ret (.cst (.bool false)))
    .nil) .nil)
    (.cons (.ret (.bool true (.cons (.call "are_most" f_are_most [] (.val (.var 3) (.val (.cst (.int 1)) (.val (.cst (.int 3)) (.val (.cst (.int 4)) .nil))))) (.cons (.call "are_most" f_are_most [] (.val (.var 4) (.val (.cst (.int 0)) (.val (.cst (.int 2)) (.val (.cst (.int 2)) .nil))))) .nil))))
    .nil))))) }
def f_is_setup : Fn := c_is_setup.run fuel
/-- check_setup(setup): slots 0=setup -/
def c_check_setup : Def := { pars := [none], more := 0, body :=
    (.cons (.ifs (.not_ (.tru (.call "is_setup" f_is_setup [] (.val (.var 0) .nil)))) (.cons (.rais "BadSetup" "not a setup")
    .nil) .nil)
    .nil) }
def f_check_setup : Fn := c_check_setup.run fuel
/-- is_range(thing): slots 0=thing -/
def c_is_range : Def := { pars := [none], more := 0, body :=
    (.cons (.ret (.bool true (.cons (.call "are_numbers" f_are_numbers [] (.val (.var 0) (.val (.cst (.int 2)) (.val (.cst (.int 2)) (.val (.cst (.int 0)) (.val (.cst (.int 9)) .nil)))))) (.cons (.cmp .le (.idx (.var 0) (.cst (.int 0))) (.idx (.var 0) (.cst (.int 1)))) .nil))))
    .nil) }
def f_is_range : Fn := c_is_range.run fuel
/-- is_rule_row(thing): slots 0=thing 1=mood 2=front 3=left 4=waiting 5=deed 6=after -/
def c_is_rule_row : Def := { pars := [none], more := 6, body :=
    (.cons (.ifs (.bool false (.cons (.not_ (.tru (.isi .tuple (.var 0)))) (.cons (.cmp .ne (.bi .len (.cons (.var 0) .nil)) (.cst (.int 6))) .nil))) (.cons (.ret (.cst (.bool false)))
    .nil) .nil)
    (.cons (.asgT (.tup [(.nm 1), (.nm 2), (.nm 3), (.nm 4), (.nm 5), (.nm 6)]) (.var 0))
    (.cons (.ifs (.bool false (.cons (.not_ (.tru (.call "is_number" f_is_number [] (.val (.var 1) (.val (.cst (.int 0)) (.val (.cst (.int 2)) .nil)))))) (.cons (.not_ (.tru (.call "is_number" f_is_number [] (.val (.var 6) (.val (.cst (.int 0)) (.val (.cst (.int 2)) .nil)))))) .nil))) (.cons (.ret (.cst (.bool false)))
    .nil) .nil)
    (.cons (.ifs (.bool false (.cons (.not_ (.tru (.call "is_range" f_is_range [] (.val (.var 2) .nil)))) (.cons (.not_ (.tru (.call "is_range" f_is_range [] (.val (.var 3) .nil)))) (.cons (.not_ (.tru (.call "is_range" f_is_range [] (.val (.var 4) .nil)))) .nil)))) (.cons (.ret (.cst (.bool false)))
    .nil) .nil)
    (.cons (.ret (.bool true (.cons (.isi .str (.var 5)) (.cons (.cmp .in_ (.var 5) (.gv "DEEDS" (.tuple [(.str "group"), (.str "single"), (.str "part"), (.str "go")]))) .nil))))
    .nil))))) }
def f_is_rule_row : Fn := c_is_rule_row.run fuel
def x_is_rule_0 : Ev.E := .lc [("row", 1)] (.nm 1) (.lst (.var 0)) none (.call "is_rule_row" f_is_rule_row [] (.val (.var 1) .nil))
/-- is_rule(thing): slots 0=thing 1=row -/
def c_is_rule : Def := { pars := [none], more := 1, body :=
    (.cons (.ifs (.bool false (.cons (.not_ (.tru (.isi .tuple (.var 0)))) (.cons (.cmp .gt (.bi .len (.cons (.var 0) .nil)) (.gv "MOST_ROWS" (.int 8))) .nil))) (.cons (.ret (.cst (.bool false)))
    .nil) .nil)
    (.cons (.ret (.bi .all (.cons x_is_rule_0 .nil)))
    .nil)) }
def f_is_rule : Fn := c_is_rule.run fuel
/-- check_both(setup, rule): slots 0=setup 1=rule -/
def c_check_both : Def := { pars := [none, none], more := 0, body :=
    (.cons (.expr (.call "check_setup" f_check_setup [] (.val (.var 0) .nil)))
    (.cons (.ifs (.not_ (.tru (.call "is_rule" f_is_rule [] (.val (.var 1) .nil)))) (.cons (.rais "BadRule" "not a rule")
    .nil) .nil)
    .nil)) }
def f_check_both : Fn := c_check_both.run fuel
def x_all_lines_0 : Ev.E := .lc2 [("line", 5), ("size", 6)] (.nm 5) (.lst (.var 3)) (.nm 6) (.lst (.var 0)) none (.bin .add (.var 5) (.tup (.cons (.var 6) .nil)))
def x_all_lines_1 : Ev.Ss := .cons (.asg 3 false x_all_lines_0)
    (.cons (.asg 2 false (.bin .add (.var 2) (.var 3)))
    .nil)
def x_all_lines_2 : Ev.S := .for_ [4] (.nm 4) (.rng1 (.var 1)) x_all_lines_1
/-- all_lines(sizes, most): slots 0=sizes 1=most 2=lines 3=last 4=count 5=line 6=size -/
def c_all_lines : Def := { pars := [none, none], more := 5, body :=
    (.cons (.asg 2 false (.lst (.cons (.tup .nil) .nil)))
    (.cons (.asg 3 false (.lst (.cons (.tup .nil) .nil)))
    (.cons x_all_lines_2
    (.cons (.ret (.bi .srt (.cons (.var 2) .nil)))
    .nil)))) }
def f_all_lines : Fn := c_all_lines.run fuel
def x_all_comers_0 : Ev.E := .lc2 [("line", 2), ("singles", 3)] (.nm 2) (.lst (.var 1)) (.nm 3) (.rng1 (.bin .add (.idx (.idx (.var 0) (.cst (.int 3))) (.cst (.int 1))) (.cst (.int 1)))) none (.tup (.cons (.var 2) (.cons (.var 3) .nil)))
/-- all_comers(setup): slots 0=setup 1=lines 2=line 3=singles -/
def c_all_comers : Def := { pars := [none], more := 3, body :=
    (.cons (.expr (.call "check_setup" f_check_setup [] (.val (.var 0) .nil)))
    (.cons (.asg 1 false (.call "all_lines" f_all_lines [] (.val (.idx (.var 0) (.cst (.int 1))) (.val (.idx (.idx (.var 0) (.cst (.int 3))) (.cst (.int 0))) .nil))))
    (.cons (.ret x_all_comers_0)
    .nil))) }
def f_all_comers : Fn := c_all_comers.run fuel
/-- is_state(setup, thing): slots 0=setup 1=thing 2=turn 3=line 4=singles 5=mood -/
def c_is_state : Def := { pars := [none, none], more := 4, body :=
    (.cons (.ifs (.bool false (.cons (.not_ (.tru (.isi .tuple (.var 1)))) (.cons (.cmp .ne (.bi .len (.cons (.var 1) .nil)) (.cst (.int 4))) .nil))) (.cons (.ret (.cst (.bool false)))
    .nil) .nil)
    (.cons (.asgT (.tup [(.nm 2), (.nm 3), (.nm 4), (.nm 5)]) (.var 1))
    (.cons (.ifs (.bool false (.cons (.not_ (.tru (.call "is_number" f_is_number [] (.val (.var 2) (.val (.cst (.int 0)) (.val (.bin .sub (.bi .len (.cons (.idx (.var 0) (.cst (.int 0))) .nil)) (.cst (.int 1))) .nil)))))) (.cons (.not_ (.tru (.call "are_numbers" f_are_numbers [] (.val (.var 3) (.val (.cst (.int 0)) (.val (.idx (.idx (.var 0) (.cst (.int 2))) (.cst (.int 0))) (.val (.cst (.int 1)) (.val (.cst (.int 5)) .nil)))))))) .nil))) (.cons (.ret (.cst (.bool false)))
    .nil) .nil)
    (.cons (.ret (.bool true (.cons (.call "is_number" f_is_number [] (.val (.var 4) (.val (.cst (.int 0)) (.val (.idx (.idx (.var 0) (.cst (.int 2))) (.cst (.int 1))) .nil)))) (.cons (.call "is_number" f_is_number [] (.val (.var 5) (.val (.cst (.int 0)) (.val (.cst (.int 2)) .nil)))) .nil))))
    .nil)))) }
def f_is_state : Fn := c_is_state.run fuel
/-- first_state(): slots  -/
def c_first_state : Def := { pars := [], more := 0, body :=
    (.cons (.ret (.gv "START" (.tuple [(.int 0), (.tuple []), (.int 0), (.int 0)])))
    .nil) }
def f_first_state : Fn := c_first_state.run fuel
/-- can_be_done(deed, front, left, singles): slots 0=deed 1=front 2=left 3=singles -/
def c_can_be_done : Def := { pars := [none, none, none, none], more := 0, body :=
    (.cons (.ifs (.cmp .eq (.var 0) (.cst (.str "group"))) (.cons (.ret (.chn .lt .le (.cst (.int 0)) (.var 1) (.var 2)))
    .nil) .nil)
    (.cons (.ifs (.cmp .eq (.var 0) (.cst (.str "single"))) (.cons (.ret (.bool true (.cons (.cmp .gt (.var 3) (.cst (.int 0))) (.cons (.cmp .gt (.var 2) (.cst (.int 0))) .nil))))
    .nil) .nil)
    (.cons (.ifs (.cmp .eq (.var 0) (.cst (.str "part"))) (.cons (.ret (.chn .gt .gt (.var 1) (.var 2) (.cst (.int 0))))
    .nil) .nil)
    (.cons (.ret (.cst (.bool true)))
    .nil)))) }
def f_can_be_done : Fn := c_can_be_done.run fuel
/-- front_of(line): slots 0=line -/
def c_front_of : Def := { pars := [none], more := 0, body :=
    (.cons (.ifs (.cmp .eq (.var 0) (.tup .nil)) (.cons (.ret (.cst (.int 0)))
    .nil) .nil)
    (.cons (.ret (.idx (.var 0) (.cst (.int 0))))
    .nil)) }
def f_front_of : Fn := c_front_of.run fuel
def x_fitting_row_0 : Ev.Ss := .cons (.asg 7 false (.bool true (.cons (.chn .le .le (.idx (.idx (.var 6) (.cst (.int 1))) (.cst (.int 0))) (.var 5) (.idx (.idx (.var 6) (.cst (.int 1))) (.cst (.int 1)))) (.cons (.chn .le .le (.idx (.idx (.var 6) (.cst (.int 2))) (.cst (.int 0))) (.var 4) (.idx (.idx (.var 6) (.cst (.int 2))) (.cst (.int 1)))) .nil))))
    (.cons (.ifs (.bool true (.cons (.cmp .eq (.idx (.var 6) (.cst (.int 0))) (.var 1)) (.cons (.tru (.var 7)) (.cons (.chn .le .le (.idx (.idx (.var 6) (.cst (.int 3))) (.cst (.int 0))) (.var 3) (.idx (.idx (.var 6) (.cst (.int 3))) (.cst (.int 1)))) .nil)))) (.cons (.ifs (.tru (.call "can_be_done" f_can_be_done [] (.val (.idx (.var 6) (.cst (.int 4))) (.val (.var 5) (.val (.var 4) (.val (.var 3) .nil)))))) (.cons (.ret (.var 6))
    .nil) .nil)
    .nil) .nil)
    .nil)
def x_fitting_row_1 : Ev.S := .for_ [6, 7] (.nm 6) (.lst (.var 0)) x_fitting_row_0
/-- fitting_row(rule, mood, line, singles, left): slots 0=rule 1=mood 2=line 3=singles 4=left 5=front 6=row 7=seen -/
def c_fitting_row : Def := { pars := [none, none, none, none, none], more := 3, body :=
    (.cons (.asg 5 false (.call "front_of" f_front_of [] (.val (.var 2) .nil)))
    (.cons x_fitting_row_1
    (.cons (.ret (.cst .none))
    .nil))) }
def f_fitting_row : Fn := c_fitting_row.run fuel
/-- seated(deed, line, singles, left): slots 0=deed 1=line 2=singles 3=left -/
def c_seated : Def := { pars := [none, none, none, none], more := 0, body :=
    (.cons (.ifs (.cmp .eq (.var 0) (.cst (.str "group"))) (.cons (.ret (.tup (.cons (.tup (.cons (.cst (.str "group")) (.cons (.idx (.var 1) (.cst (.int 0))) .nil))) (.cons (.slc (.var 1) (.so (.cst (.int 1))) .no) (.cons (.var 2) (.cons (.bin .sub (.var 3) (.idx (.var 1) (.cst (.int 0)))) .nil))))))
    .nil) .nil)
    (.cons (.ifs (.cmp .eq (.var 0) (.cst (.str "single"))) (.cons (.ret (.tup (.cons (.tup (.cons (.cst (.str "single")) (.cons (.cst (.int 1)) .nil))) (.cons (.var 1) (.cons (.bin .sub (.var 2) (.cst (.int 1))) (.cons (.bin .sub (.var 3) (.cst (.int 1))) .nil))))))
    .nil) .nil)
    (.cons (.ret (.tup (.cons (.tup (.cons (.cst (.str "part")) (.cons (.var 3) .nil))) (.cons (.bin .add (.tup (.cons (.bin .sub (.idx (.var 1) (.cst (.int 0))) (.var 3)) .nil)) (.slc (.var 1) (.so (.cst (.int 1))) .no)) (.cons (.var 2) (.cons (.cst (.int 0)) .nil))))))
    .nil))) }
def f_seated : Fn := c_seated.run fuel
def x_fill_0 : Ev.T := .bool true (.cons (.cmp .isnot (.var 7) (.cst .none)) (.cons (.cmp .ne (.idx (.var 7) (.cst (.int 4))) (.cst (.str "go"))) .nil))
def x_fill_1 : Ev.Ss := .cons (.asgT (.tup [(.nm 8), (.nm 1), (.nm 2), (.nm 5)]) (.call "seated" f_seated [] (.val (.idx (.var 7) (.cst (.int 4))) (.val (.var 1) (.val (.var 2) (.val (.var 5) .nil))))))
    (.cons (.expr (.app 6 (.var 8)))
    (.cons (.asg 4 false (.idx (.var 7) (.cst (.int 5))))
    (.cons (.asg 7 false (.call "fitting_row" f_fitting_row [] (.val (.var 0) (.val (.var 4) (.val (.var 1) (.val (.var 2) (.val (.var 5) .nil)))))))
    .nil)))
def x_fill_2 : Ev.S := .whl [8] x_fill_0 x_fill_1
/-- fill(rule, line, singles, seats, mood): slots 0=rule 1=line 2=singles 3=seats 4=mood 5=left 6=deeds 7=row 8=deed -/
def c_fill : Def := { pars := [none, none, none, none, none], more := 4, body :=
    (.cons (.asg 5 false (.var 3))
    (.cons (.asg 6 true (.lst .nil))
    (.cons (.asg 7 false (.call "fitting_row" f_fitting_row [] (.val (.var 0) (.val (.var 4) (.val (.var 1) (.val (.var 2) (.val (.var 5) .nil)))))))
    (.cons x_fill_2
    (.cons (.ifs (.cmp .isnot (.var 7) (.cst .none)) (.cons (.asg 4 false (.idx (.var 7) (.cst (.int 5))))
    .nil) .nil)
    (.cons (.ret (.tup (.cons (.bi .tuple (.cons (.var 6) .nil)) (.cons (.var 5) (.cons (.var 1) (.cons (.var 2) (.cons (.var 4) .nil)))))))
    .nil)))))) }
def f_fill : Fn := c_fill.run fuel
/-- beat(setup, rule, state, comers): slots 0=setup 1=rule 2=state 3=comers 4=turn 5=line 6=singles 7=mood 8=away 9=deeds 10=left 11=lost -/
def c_beat : Def := { pars := [none, none, none, none], more := 8, body :=
    (.cons (.asgT (.tup [(.nm 4), (.nm 5), (.nm 6), (.nm 7)]) (.var 2))
    (.cons (.asgT (.tup [(.nm 5), (.nm 6), (.nm 8)]) (.call "let_in" f_let_in [] (.val (.var 0) (.val (.var 5) (.val (.var 6) (.val (.var 3) .nil))))))
    (.cons (.asgT (.tup [(.nm 9), (.nm 10), (.nm 5), (.nm 6), (.nm 7)]) (.call "fill" f_fill [] (.val (.var 1) (.val (.var 5) (.val (.var 6) (.val (.idx (.idx (.var 0) (.cst (.int 0))) (.var 4)) (.val (.var 7) .nil)))))))
    (.cons (.asg 11 false (.cst (.int 0)))
    (.cons (.ifs (.bool false (.cons (.cmp .ne (.var 5) (.tup .nil)) (.cons (.cmp .gt (.var 6) (.cst (.int 0))) .nil))) (.cons (.asg 11 false (.var 10))
    .nil) .nil)
    (.cons (.ret (.tup (.cons (.tup (.cons (.var 9) (.cons (.var 10) (.cons (.var 11) (.cons (.var 8) .nil))))) (.cons (.tup (.cons (.bin .mod (.bin .add (.var 4) (.cst (.int 1))) (.bi .len (.cons (.idx (.var 0) (.cst (.int 0))) .nil))) (.cons (.var 5) (.cons (.var 6) (.cons (.var 7) .nil))))) .nil))))
    .nil)))))) }
def f_beat : Fn := c_beat.run fuel
/-- standing_at(state): slots 0=state 1=turn 2=line 3=singles 4=mood -/
def c_standing_at : Def := { pars := [none], more := 4, body :=
    (.cons (.asgT (.tup [(.nm 1), (.nm 2), (.nm 3), (.nm 4)]) (.var 0))
    (.cons (.ifs (.cmp .eq (.var 2) (.tup .nil)) (.cons (.ret (.tup (.cons (.var 1) (.cons (.cst (.int 0)) (.cons (.cst (.int 0)) (.cons (.var 3) (.cons (.var 4) .nil)))))))
    .nil) .nil)
    (.cons (.ret (.tup (.cons (.var 1) (.cons (.idx (.var 2) (.cst (.int 0))) (.cons (.bin .sub (.bi .len (.cons (.var 2) .nil)) (.cst (.int 1))) (.cons (.var 3) (.cons (.var 4) .nil)))))))
    .nil))) }
def f_standing_at : Fn := c_standing_at.run fuel
def x_run_0 : Ev.Ss := .cons (.asgT (.tup [(.nm 6), (.nm 2)]) (.call "beat" f_beat [] (.val (.var 0) (.val (.var 1) (.val (.var 2) (.val (.var 5) .nil))))))
    (.cons (.expr (.app 4 (.var 6)))
    .nil)
def x_run_1 : Ev.S := .for_ [5, 6] (.nm 5) (.lst (.var 3)) x_run_0
/-- run(setup, rule, state, row): slots 0=setup 1=rule 2=state 3=row 4=chairs 5=comers 6=chair -/
def c_run : Def := { pars := [none, none, none, none], more := 3, body :=
    (.cons (.asg 4 true (.lst .nil))
    (.cons x_run_1
    (.cons (.ret (.tup (.cons (.var 4) (.cons (.var 2) .nil))))
    .nil))) }
def f_run : Fn := c_run.run fuel
/-- chairs_of(setup, rule, row): slots 0=setup 1=rule 2=row -/
def c_chairs_of : Def := { pars := [none, none, none], more := 0, body :=
    (.cons (.expr (.call "check_both" f_check_both [] (.val (.var 0) (.val (.var 1) .nil))))
    (.cons (.expr (.call "check_row" f_check_row [(.int 300)] (.val (.var 0) (.val (.var 2) .nil))))
    (.cons (.ret (.idx (.call "run" f_run [] (.val (.var 0) (.val (.var 1) (.val (.call "first_state" f_first_state [] .nil) (.val (.var 2) .nil))))) (.cst (.int 0))))
    .nil))) }
def f_chairs_of : Fn := c_chairs_of.run fuel
def x_lost_by_0 : Ev.E := .lc [("chair", 3)] (.nm 3) (.lst (.call "chairs_of" f_chairs_of [] (.val (.var 0) (.val (.var 1) (.val (.var 2) .nil))))) none (.idx (.var 3) (.cst (.int 2)))
/-- lost_by(setup, rule, row): slots 0=setup 1=rule 2=row 3=chair -/
def c_lost_by : Def := { pars := [none, none, none], more := 1, body :=
    (.cons (.ret (.bi .sum (.cons x_lost_by_0 .nil)))
    .nil) }
def f_lost_by : Fn := c_lost_by.run fuel
def x_parted_by_0 : Ev.E := .lc2 [("chair", 4), ("deed", 5)] (.nm 4) (.lst (.var 3)) (.nm 5) (.lst (.idx (.var 4) (.cst (.int 0)))) (some (.cmp .eq (.idx (.var 5) (.cst (.int 0))) (.cst (.str "part")))) (.var 5)
/-- parted_by(setup, rule, row): slots 0=setup 1=rule 2=row 3=chairs 4=chair 5=deed -/
def c_parted_by : Def := { pars := [none, none, none], more := 3, body :=
    (.cons (.asg 3 false (.call "chairs_of" f_chairs_of [] (.val (.var 0) (.val (.var 1) (.val (.var 2) .nil)))))
    (.cons (.ret (.bi .len (.cons x_parted_by_0 .nil)))
    .nil)) }
def f_parted_by : Fn := c_parted_by.run fuel
/-- state_after(setup, rule, row): slots 0=setup 1=rule 2=row -/
def c_state_after : Def := { pars := [none, none, none], more := 0, body :=
    (.cons (.expr (.call "check_both" f_check_both [] (.val (.var 0) (.val (.var 1) .nil))))
    (.cons (.expr (.call "check_row" f_check_row [(.int 300)] (.val (.var 0) (.val (.var 2) .nil))))
    (.cons (.ret (.idx (.call "run" f_run [] (.val (.var 0) (.val (.var 1) (.val (.call "first_state" f_first_state [] .nil) (.val (.var 2) .nil))))) (.cst (.int 1))))
    .nil))) }
def f_state_after : Fn := c_state_after.run fuel
end
end Pg

-- MB
section
/-! MB: small facts for the mathematics. -/
namespace Pg
open PySem L2 Ev
noncomputable section
local macro_rules | `(tactic| simp_arith [$ls,*]) => `(tactic| simp (config := { decide := false }) only [run_fin, Def.start, parSl, Option.map_some, List.replicate, List.cons_append, List.nil_append, List.append_nil, evalSs, evalS, evalE, ↓turn_def, ↓wturn_def, cl_next, cl_cnt, cl_brk, cl_ret, cl_exc, cl_bad, cl_ite, ↓lcC_def, evalEs, evalB, evalAs, evalT, evalTs, evalO, evalI, evalC, bind_ok', bind_bad', bind_exc', bind_ite, out_ok', out_bad', out_exc', out_ite, seq_next, seq_ret, seq_brk, seq_cnt, seq_exc, seq_bad, seq_ite, fin_next, fin_ret, fin_bad, fin_exc, fin_ite, nextO, op1, op2, ↓op2b_def, opN, giveT, getAll, Tm.get, Tm.esc, slot, Sl.get, share, take, takeAll, mkT, truOf, truD, cmpB, cmpD, ordD, binD, negD, notD, idxD, slcD, revD, biD, isiD, isD, isNone, ↓lcT_def, onTg, clr, rst, Res.noExc, List.map_cons, List.map_nil, List.all_cons, List.all_nil, plainAt, Sl.plain, Bool.and_true, Bool.and_self, tgIx, tgsIx, itemsOf, asgS, asgTg, asgTgs, Sl.opt, iosOf, endRet, doCall, doCallN, doCallB, isScal, lsetD, arGet, arIos, putIos, putIo, chgI, chgE, setAt, appAt, extAt, ownL, newL, newT, exAt, setX, noEx, Sl.notEx, evalHs, popE, popIx, augD, parS, eqD_int, eqD_str, at0, at1, at2, at3, at4, at5, w_group_group, w_group_single, w_group_part, w_group_go, w_single_group, w_single_single, w_single_part, w_single_go, w_part_group, w_part_single, w_part_part, w_part_go, w_go_group, w_go_single, w_go_part, w_go_go, sm0, sm1, sm2, sm3, sm4, sm5, sm6, sm7, sm8, sm9, sm10, sm11, sm12, sm13, sm14, sm15, sm16, sm17, sm18, sm19, sm20, sm21, sm22, sm23, sm24, sm25, sm26, sm27, sm28, sm29, sm30, sm31, sm32, sm33, sm34, sm35, sm36, sm37, sm38, sm39, sm40, List.getElem?_cons_zero, List.getElem?_cons_succ, List.set_cons_zero, List.set_cons_succ, List.nodup_nil, if_true, if_false, Bool.not_true, Bool.not_false, ↓reduceIte, Bool.false_eq_true, decide_eq_true_eq, List.nodup_cons, List.not_mem_nil, not_false_eq_true, and_self, true_and, and_true, Option.bind_some, Option.isSome_some, Option.getD_some, reduceCtorEq, decide_true, decide_false, Int.reduceLE, Int.reduceLT, Int.reduceEq, Int.reduceNe, Int.reduceAdd, Int.reduceSub, Int.reduceNeg, Nat.reduceAdd, Nat.reduceLeDiff, Int.cast_ofNat_Int, eq_self, List.length_cons, List.length_nil, Nat.zero_add, $ls,*])
local macro_rules | `(tactic| simp_arith) => `(tactic| simp (config := { decide := false }) only [run_fin, Def.start, parSl, Option.map_some, List.replicate, List.cons_append, List.nil_append, List.append_nil, evalSs, evalS, evalE, ↓turn_def, ↓wturn_def, cl_next, cl_cnt, cl_brk, cl_ret, cl_exc, cl_bad, cl_ite, ↓lcC_def, evalEs, evalB, evalAs, evalT, evalTs, evalO, evalI, evalC, bind_ok', bind_bad', bind_exc', bind_ite, out_ok', out_bad', out_exc', out_ite, seq_next, seq_ret, seq_brk, seq_cnt, seq_exc, seq_bad, seq_ite, fin_next, fin_ret, fin_bad, fin_exc, fin_ite, nextO, op1, op2, ↓op2b_def, opN, giveT, getAll, Tm.get, Tm.esc, slot, Sl.get, share, take, takeAll, mkT, truOf, truD, cmpB, cmpD, ordD, binD, negD, notD, idxD, slcD, revD, biD, isiD, isD, isNone, ↓lcT_def, onTg, clr, rst, Res.noExc, List.map_cons, List.map_nil, List.all_cons, List.all_nil, plainAt, Sl.plain, Bool.and_true, Bool.and_self, tgIx, tgsIx, itemsOf, asgS, asgTg, asgTgs, Sl.opt, iosOf, endRet, doCall, doCallN, doCallB, isScal, lsetD, arGet, arIos, putIos, putIo, chgI, chgE, setAt, appAt, extAt, ownL, newL, newT, exAt, setX, noEx, Sl.notEx, evalHs, popE, popIx, augD, parS, eqD_int, eqD_str, at0, at1, at2, at3, at4, at5, w_group_group, w_group_single, w_group_part, w_group_go, w_single_group, w_single_single, w_single_part, w_single_go, w_part_group, w_part_single, w_part_part, w_part_go, w_go_group, w_go_single, w_go_part, w_go_go, sm0, sm1, sm2, sm3, sm4, sm5, sm6, sm7, sm8, sm9, sm10, sm11, sm12, sm13, sm14, sm15, sm16, sm17, sm18, sm19, sm20, sm21, sm22, sm23, sm24, sm25, sm26, sm27, sm28, sm29, sm30, sm31, sm32, sm33, sm34, sm35, sm36, sm37, sm38, sm39, sm40, List.getElem?_cons_zero, List.getElem?_cons_succ, List.set_cons_zero, List.set_cons_succ, List.nodup_nil, if_true, if_false, Bool.not_true, Bool.not_false, ↓reduceIte, Bool.false_eq_true, decide_eq_true_eq, List.nodup_cons, List.not_mem_nil, not_false_eq_true, and_self, true_and, and_true, Option.bind_some, Option.isSome_some, Option.getD_some, reduceCtorEq, decide_true, decide_false, Int.reduceLE, Int.reduceLT, Int.reduceEq, Int.reduceNe, Int.reduceAdd, Int.reduceSub, Int.reduceNeg, Nat.reduceAdd, Nat.reduceLeDiff, Int.cast_ofNat_Int, eq_self, List.length_cons, List.length_nil, Nat.zero_add])
theorem intL_len (ns : List Int) : (intL ns).length = ns.length := List.length_map _
theorem intL_app (a b : List Int) : intL a ++ intL b = intL (a ++ b) := (List.map_append ..).symm
theorem intL_take (a : List Int) (n : Nat) : (intL a).take n = intL (a.take n) := (List.map_take ..).symm
theorem intL_drop (a : List Int) (n : Nat) : (intL a).drop n = intL (a.drop n) := (List.map_drop ..).symm
theorem intL_snoc (ns : List Int) (n : Int) : intL ns ++ [.int n] = intL (ns ++ [n]) := by unfold intL; simp
theorem intL_cons (n : Int) (ns : List Int) : .int n :: intL ns = intL (n :: ns) := rfl
theorem intL_nil : intL [] = [] := rfl
theorem boolsOf_map {α : Type} (f : α → Bool) : ∀ l : List α, boolsOf (l.map fun x => .bool (f x)) = some (l.map f)
  | [] => rfl
  | x :: l => by
    show (boolsOf (l.map fun x => .bool (f x))).map (f x :: ·) = _
    rw [boolsOf_map f l]; rfl
theorem intsOf_map {α : Type} (f : α → Int) : ∀ l : List α, intsOf (l.map fun x => .int (f x)) = some (l.map f)
  | [] => rfl
  | x :: l => by
    show (intsOf (l.map fun x => .int (f x))).map (f x :: ·) = _
    rw [intsOf_map f l]; rfl
theorem intsOf_intL (l : List Int) : intsOf (intL l) = some l := by
  have := intsOf_map (fun x : Int => x) l
  rw [List.map_id'] at this
  exact this
theorem all_map_id {α : Type} (f : α → Bool) (l : List α) : (l.map f).all id = l.all f := by rw [List.all_map]; rfl
theorem any_map_id {α : Type} (f : α → Bool) (l : List α) : (l.map f).any id = l.any f := by rw [List.any_map]; rfl
theorem at_intL (xs : List Int) (i : Int) (h0 : 0 ≤ i) (h : i < xs.length) : atI (intL xs) i = some (.int (xs[i.toNat]?.getD 0)) := at_map _ xs i h0 h
theorem cut_all {α : Type} (xs : List α) (n : Int) (h0 : 0 ≤ n) (h : (xs.length : Int) ≤ n) : cut xs none (some n) = xs := by
  unfold cut
  have h2 : HT.sIx xs.length xs.length (some n) = xs.length := by
    unfold HT.sIx
    simp only
    rw [if_neg (by omega)]
    omega
  rw [h2]
  simp [HT.sIx]
theorem cut_to {α : Type} (xs : List α) (n : Int) (h0 : 0 ≤ n) : cut xs none (some n) = xs.take n.toNat := by
  unfold cut
  have h2 : HT.sIx xs.length xs.length (some n) = min n.toNat xs.length := by
    unfold HT.sIx
    simp only
    rw [if_neg (by omega)]
  have h1 : HT.sIx xs.length 0 none = 0 := rfl
  rw [h2, h1, List.drop_zero, Nat.sub_zero]
  rcases Nat.le_total n.toNat xs.length with h | h
  · rw [Nat.min_eq_left h]
  · rw [Nat.min_eq_right h, List.take_of_length_le (Nat.le_refl _), List.take_of_length_le h]
theorem cut_from {α : Type} (xs : List α) (n : Int) (h0 : 0 ≤ n) : cut xs (some n) none = xs.drop n.toNat := by
  unfold cut
  have h2 : HT.sIx xs.length 0 (some n) = min n.toNat xs.length := by
    unfold HT.sIx
    simp only
    rw [if_neg (by omega)]
  have h1 : HT.sIx xs.length xs.length none = xs.length := rfl
  rw [h2, h1]
  rcases Nat.le_total n.toNat xs.length with h | h
  · rw [Nat.min_eq_left h, List.take_of_length_le (by rw [List.length_drop]; omega)]
  · rw [Nat.min_eq_right h, List.drop_of_length_le (Nat.le_refl _), List.drop_of_length_le h]; simp
theorem cut_mid {α : Type} (xs : List α) (m n : Int) (h0 : 0 ≤ m) (h1 : m ≤ n) : cut xs (some m) (some n) = (xs.drop m.toNat).take (n - m).toNat := by
  unfold cut
  have h2 : HT.sIx xs.length 0 (some m) = min m.toNat xs.length := by
    unfold HT.sIx
    simp only
    rw [if_neg (by omega)]
  have h3 : HT.sIx xs.length xs.length (some n) = min n.toNat xs.length := by
    unfold HT.sIx
    simp only
    rw [if_neg (by omega)]
  rw [h2, h3]
  rcases Nat.le_total m.toNat xs.length with h | h
  · rw [Nat.min_eq_left h]
    rcases Nat.le_total n.toNat xs.length with h' | h'
    · rw [Nat.min_eq_left h']; congr 1; omega
    · rw [Nat.min_eq_right h', List.take_of_length_le (by rw [List.length_drop]; omega), List.take_of_length_le (by rw [List.length_drop]; omega)]
  · rw [Nat.min_eq_right h, List.drop_of_length_le (Nat.le_refl _), List.drop_of_length_le h]; simp
theorem cut_id {α : Type} (xs : List α) : cut xs none none = xs := by
  unfold cut
  simp [HT.sIx]
theorem cut_tail {α : Type} (x : α) (xs : List α) : cut (x :: xs) (some 1) none = xs := cut_from (x :: xs) 1 (by decide)
theorem mulOk_l {i j : Int} (h1 : -18446744073709551616 < i) (h2 : i < 18446744073709551616) : MulOk i j := .inl ⟨by omega, by omega⟩
theorem log_small {m : Int} (h0 : 0 < m) (h : m < 1048576) : DivOk m := by
  unfold DivOk
  have h1 : m.natAbs < 2 ^ 20 := by omega
  have h2 : m.natAbs ≠ 0 := by omega
  have := (Nat.log2_lt h2).mpr h1
  omega
theorem ix0 : ixN 2 0 = some 0 := rfl
theorem ix1 : ixN 2 1 = some 1 := rfl
theorem rngD_length (lo : Int) (n : Nat) : (rngD lo n).length = n := by unfold rngD; simp
theorem rngOk_small {j : Int} (h0 : -1000000 ≤ j := by omega) (h : j ≤ 1000000 := by omega) : RngOk j := ⟨by omega, by omega⟩
/-- a range as mapped numbers -/
def rngL (lo : Int) (n : Nat) : List Int := (List.range n).map fun (k : Nat) => lo + (k : Int)
theorem rng_map (lo : Int) (n : Nat) : rngD lo n = (rngL lo n).map .int := by unfold rngD rngL; rw [List.map_map]; rfl
theorem rngL_len (lo : Int) (n : Nat) : (rngL lo n).length = n := by unfold rngL; simp
theorem rngL_mem {lo : Int} {n : Nat} {k : Int} : k ∈ rngL lo n ↔ lo ≤ k ∧ k < lo + n := by
  unfold rngL
  simp only [List.mem_map, List.mem_range]
  constructor
  · rintro ⟨j, h, rfl⟩; omega
  · rintro ⟨h1, h2⟩; exact ⟨(k - lo).toNat, by omega, by omega⟩
theorem rngL_succ (lo : Int) (n : Nat) : rngL lo (n + 1) = lo :: rngL (lo + 1) n := by
  unfold rngL
  rw [List.range_succ_eq_map]
  simp only [List.map_cons, List.map_map]
  congr 1
  · simp
  · apply List.map_congr_left
    intro k _
    show lo + ((k + 1 : Nat) : Int) = lo + 1 + (k : Int)
    omega
theorem rngL_zero (lo : Int) : rngL lo 0 = [] := rfl
theorem enum_map {α : Type} (f : α → D) : ∀ (k : Nat) (xs : List α), enumFrom k (xs.map f) = (xs.zipIdx k).map fun p => .tuple [.int (p.2 : Nat), f p.1]
  | _, [] => rfl
  | k, x :: xs => by
    show PyData.tuple [.int k, f x] :: enumFrom (k + 1) (xs.map f) = _
    rw [enum_map f (k + 1) xs]
    rfl
theorem zip_map {α β : Type} (f : α → D) (g : β → D) : ∀ (xs : List α) (ys : List β), zipD (xs.map f) (ys.map g) = (xs.zip ys).map fun p => .tuple [f p.1, g p.2]
  | [], _ => by unfold zipD; simp
  | _ :: _, [] => by unfold zipD; simp
  | x :: xs, y :: ys => by
    show PyData.tuple [f x, g y] :: zipD (xs.map f) (ys.map g) = _
    rw [zip_map f g xs ys]
    rfl
theorem isNil_eq {α : Type} (l : List α) : (l = []) ↔ l.length = 0 := by cases l <;> simp
/-! ### what all need -/
theorem is_integer_int (i : Int) : f_is_integer [.int i] = .ok false (.bool true) [] := by
  unfold f_is_integer c_is_integer
  simp_arith
theorem is_number_int (i lo hi : Int) : f_is_number [.int i, .int lo, .int hi] = .ok false (.bool (decide (lo ≤ i ∧ i ≤ hi))) [] := by
  unfold f_is_number c_is_number
  simp_arith [is_integer_int]
  by_cases h : lo ≤ i <;> simp [h, endRet, iosOf]
end
end Pg

end

-- MPg
section
/-! MPg: setups, rules, rows, beats of the program. -/
namespace Pg
open PySem L2 Ev
noncomputable section
local macro_rules | `(tactic| simp_arith [$ls,*]) => `(tactic| simp (config := { decide := false }) only [run_fin, Def.start, parSl, Option.map_some, List.replicate, List.cons_append, List.nil_append, List.append_nil, evalSs, evalS, evalE, ↓turn_def, ↓wturn_def, cl_next, cl_cnt, cl_brk, cl_ret, cl_exc, cl_bad, cl_ite, ↓lcC_def, evalEs, evalB, evalAs, evalT, evalTs, evalO, evalI, evalC, bind_ok', bind_bad', bind_exc', bind_ite, out_ok', out_bad', out_exc', out_ite, seq_next, seq_ret, seq_brk, seq_cnt, seq_exc, seq_bad, seq_ite, fin_next, fin_ret, fin_bad, fin_exc, fin_ite, nextO, op1, op2, ↓op2b_def, opN, giveT, getAll, Tm.get, Tm.esc, slot, Sl.get, share, take, takeAll, mkT, truOf, truD, cmpB, cmpD, ordD, binD, negD, notD, idxD, slcD, revD, biD, isiD, isD, isNone, ↓lcT_def, onTg, clr, rst, Res.noExc, List.map_cons, List.map_nil, List.all_cons, List.all_nil, plainAt, Sl.plain, Bool.and_true, Bool.and_self, tgIx, tgsIx, itemsOf, asgS, asgTg, asgTgs, Sl.opt, iosOf, endRet, doCall, doCallN, doCallB, isScal, lsetD, arGet, arIos, putIos, putIo, chgI, chgE, setAt, appAt, extAt, ownL, newL, newT, exAt, setX, noEx, Sl.notEx, evalHs, popE, popIx, augD, parS, eqD_int, eqD_str, at0, at1, at2, at3, at4, at5, w_group_group, w_group_single, w_group_part, w_group_go, w_single_group, w_single_single, w_single_part, w_single_go, w_part_group, w_part_single, w_part_part, w_part_go, w_go_group, w_go_single, w_go_part, w_go_go, sm0, sm1, sm2, sm3, sm4, sm5, sm6, sm7, sm8, sm9, sm10, sm11, sm12, sm13, sm14, sm15, sm16, sm17, sm18, sm19, sm20, sm21, sm22, sm23, sm24, sm25, sm26, sm27, sm28, sm29, sm30, sm31, sm32, sm33, sm34, sm35, sm36, sm37, sm38, sm39, sm40, List.getElem?_cons_zero, List.getElem?_cons_succ, List.set_cons_zero, List.set_cons_succ, List.nodup_nil, if_true, if_false, Bool.not_true, Bool.not_false, ↓reduceIte, Bool.false_eq_true, decide_eq_true_eq, List.nodup_cons, List.not_mem_nil, not_false_eq_true, and_self, true_and, and_true, Option.bind_some, Option.isSome_some, Option.getD_some, reduceCtorEq, decide_true, decide_false, Int.reduceLE, Int.reduceLT, Int.reduceEq, Int.reduceNe, Int.reduceAdd, Int.reduceSub, Int.reduceNeg, Nat.reduceAdd, Nat.reduceLeDiff, Int.cast_ofNat_Int, eq_self, List.length_cons, List.length_nil, Nat.zero_add, $ls,*])
local macro_rules | `(tactic| simp_arith) => `(tactic| simp (config := { decide := false }) only [run_fin, Def.start, parSl, Option.map_some, List.replicate, List.cons_append, List.nil_append, List.append_nil, evalSs, evalS, evalE, ↓turn_def, ↓wturn_def, cl_next, cl_cnt, cl_brk, cl_ret, cl_exc, cl_bad, cl_ite, ↓lcC_def, evalEs, evalB, evalAs, evalT, evalTs, evalO, evalI, evalC, bind_ok', bind_bad', bind_exc', bind_ite, out_ok', out_bad', out_exc', out_ite, seq_next, seq_ret, seq_brk, seq_cnt, seq_exc, seq_bad, seq_ite, fin_next, fin_ret, fin_bad, fin_exc, fin_ite, nextO, op1, op2, ↓op2b_def, opN, giveT, getAll, Tm.get, Tm.esc, slot, Sl.get, share, take, takeAll, mkT, truOf, truD, cmpB, cmpD, ordD, binD, negD, notD, idxD, slcD, revD, biD, isiD, isD, isNone, ↓lcT_def, onTg, clr, rst, Res.noExc, List.map_cons, List.map_nil, List.all_cons, List.all_nil, plainAt, Sl.plain, Bool.and_true, Bool.and_self, tgIx, tgsIx, itemsOf, asgS, asgTg, asgTgs, Sl.opt, iosOf, endRet, doCall, doCallN, doCallB, isScal, lsetD, arGet, arIos, putIos, putIo, chgI, chgE, setAt, appAt, extAt, ownL, newL, newT, exAt, setX, noEx, Sl.notEx, evalHs, popE, popIx, augD, parS, eqD_int, eqD_str, at0, at1, at2, at3, at4, at5, w_group_group, w_group_single, w_group_part, w_group_go, w_single_group, w_single_single, w_single_part, w_single_go, w_part_group, w_part_single, w_part_part, w_part_go, w_go_group, w_go_single, w_go_part, w_go_go, sm0, sm1, sm2, sm3, sm4, sm5, sm6, sm7, sm8, sm9, sm10, sm11, sm12, sm13, sm14, sm15, sm16, sm17, sm18, sm19, sm20, sm21, sm22, sm23, sm24, sm25, sm26, sm27, sm28, sm29, sm30, sm31, sm32, sm33, sm34, sm35, sm36, sm37, sm38, sm39, sm40, List.getElem?_cons_zero, List.getElem?_cons_succ, List.set_cons_zero, List.set_cons_succ, List.nodup_nil, if_true, if_false, Bool.not_true, Bool.not_false, ↓reduceIte, Bool.false_eq_true, decide_eq_true_eq, List.nodup_cons, List.not_mem_nil, not_false_eq_true, and_self, true_and, and_true, Option.bind_some, Option.isSome_some, Option.getD_some, reduceCtorEq, decide_true, decide_false, Int.reduceLE, Int.reduceLT, Int.reduceEq, Int.reduceNe, Int.reduceAdd, Int.reduceSub, Int.reduceNeg, Nat.reduceAdd, Nat.reduceLeDiff, Int.cast_ofNat_Int, eq_self, List.length_cons, List.length_nil, Nat.zero_add])
def inRgg (lo hi n : Int) : Bool := decide (lo ≤ n ∧ n ≤ hi)
theorem x_are_numbers_ok (ns : List Int) (a b : Sl) (lo hi : Int) (hl : ns.length ≤ 16777216) : evalE x_are_numbers_0 [.sh (.tuple (intL ns)), a, b, .sh (.int lo), .sh (.int hi), .un] =
    .ok (.ow (.list (ns.map fun n => .bool (inRgg lo hi n)))) [.sh (.tuple (intL ns)), a, b, .sh (.int lo), .sh (.int hi), .un] := by
  unfold x_are_numbers_0
  exact lc_map' PyData.int ns _ (by simp_arith; rfl) (by simp_arith) hl fun n _ => by
    simp_arith [is_number_int]
    rfl
theorem are_numbers_val (ns : List Int) (least most lo hi : Int) (hl : ns.length ≤ 16777216) : f_are_numbers [.tuple (intL ns), .int least, .int most, .int lo, .int hi] = .ok false (.bool (decide (least ≤ ns.length ∧ (ns.length : Int) ≤ most) && ns.all (inRgg lo hi))) [] := by
  unfold f_are_numbers c_are_numbers
  simp_arith [intL_len, x_are_numbers_ok ns _ _ lo hi hl, boolsOf_map, all_map_id]
  by_cases h1 : least ≤ (ns.length : Int)
  · by_cases h2 : (ns.length : Int) ≤ most
    · simp [h1, h2, endRet, iosOf, fin]
    · simp [h1, h2, endRet, iosOf, fin]
  · simp [h1, endRet, iosOf, fin]
theorem are_numbers_ok (ns : List Int) (least most lo hi : Int) (hl : ns.length ≤ 16777216) (h1 : least ≤ ns.length) (h2 : (ns.length : Int) ≤ most) (h3 : ∀ n ∈ ns, lo ≤ n ∧ n ≤ hi) : f_are_numbers [.tuple (intL ns), .int least, .int most, .int lo, .int hi] = .ok false (.bool true) [] := by
  rw [are_numbers_val ns _ _ _ _ hl, decide_eq_true ⟨h1, h2⟩, show ns.all (inRgg lo hi) = true from List.all_eq_true.mpr fun n hn => decide_eq_true (h3 n hn)]
  rfl
theorem are_numbers_two (a b lo hi : Int) (h1 : lo ≤ a ∧ a ≤ hi) (h2 : lo ≤ b ∧ b ≤ hi) : f_are_numbers [.tuple [.int a, .int b], .int 2, .int 2, .int lo, .int hi] = .ok false (.bool true) [] :=
  are_numbers_ok [a, b] 2 2 lo hi (by simp) (by simp) (by simp) (by simp [h1, h2])
theorem are_most_ok (a b lo hi s : Int) (h1 : 0 ≤ a ∧ a ≤ 9) (h2 : 0 ≤ b ∧ b ≤ 9) (h3 : lo ≤ a) (h4 : a ≤ hi) (h5 : b ≤ s) : f_are_most [.tuple [.int a, .int b], .int lo, .int hi, .int s] = .ok false (.bool true) [] := by
  unfold f_are_most c_are_most
  simp_arith [are_numbers_two a b 0 9 h1 h2, h3, h4, h5]
/-! ### setups -/
structure Su where
  seats : List Int
  sizes : List Int
  r1 : Int
  r2 : Int
  c1 : Int
  c2 : Int
def Su.d (s : Su) : D := .tuple [.tuple (intL s.seats), .tuple (intL s.sizes), .tuple [.int s.r1, .int s.r2], .tuple [.int s.c1, .int s.c2]]
def ups : List Int → Bool
  | a :: b :: r => decide (a < b) && ups (b :: r)
  | _ => true
structure Su.ok (s : Su) : Prop where
  s1 : 1 ≤ s.seats.length
  s2 : s.seats.length ≤ 2
  s3 : ∀ n ∈ s.seats, 1 ≤ n ∧ n ≤ 5
  z1 : 1 ≤ s.sizes.length
  z2 : s.sizes.length ≤ 3
  z3 : ∀ n ∈ s.sizes, 1 ≤ n ∧ n ≤ 5
  z4 : ups s.sizes = true
  r1 : 1 ≤ s.r1 ∧ s.r1 ≤ 3
  r2 : 0 ≤ s.r2 ∧ s.r2 ≤ 4
  c1 : 0 ≤ s.c1 ∧ s.c1 ≤ 2
  c2 : 0 ≤ s.c2 ∧ s.c2 ≤ 2
theorem ups_all : ∀ ns : List Int, ((ns.zip ns.tail).all fun p => decide (p.1 < p.2)) = ups ns
  | [] => rfl
  | [_] => rfl
  | a :: b :: r => by
    have ih := ups_all (b :: r)
    show (decide (a < b) && ((b :: r).zip r).all fun p => decide (p.1 < p.2)) = (decide (a < b) && ups (b :: r))
    rw [← ih]; rfl
theorem x_is_setup_ok (a b c d : Sl) (ns : List Int) (hl : ns.length ≤ 1000) (hne : ns ≠ []) : evalE x_is_setup_0 [a, b, .sh (.tuple (intL ns)), c, d, .un, .un] =
    .ok (.ow (.list ((ns.zip ns.tail).map fun p => .bool (decide (p.1 < p.2))))) [a, b, .sh (.tuple (intL ns)), c, d, .un, .un] := by
  unfold x_is_setup_0
  cases ns with
  | nil => exact absurd rfl hne
  | cons n ns =>
    refine lc_map' (fun p : Int × Int => .tuple [.int p.1, .int p.2]) ((n :: ns).zip ns) _ ?_ (by simp_arith) ?_ fun p _ => ?_
    · unfold intL
      simp_arith [List.map_cons, cut_tail]
      have := zip_map PyData.int PyData.int (n :: ns) ns
      rw [List.map_cons] at this
      rw [this]
    · rw [List.length_zip]; simp only [List.length_cons] at hl ⊢; omega
    · simp_arith
theorem is_setup_ok (s : Su) (h : s.ok) : f_is_setup [s.d] = .ok false (.bool true) [] := by
  unfold f_is_setup c_is_setup Su.d
  have n1 := are_numbers_ok s.seats 1 2 1 5 (by have := h.s2; omega) (by have := h.s1; omega) (by have := h.s2; omega) h.s3
  have n2 := are_numbers_ok s.sizes 1 3 1 5 (by have := h.z2; omega) (by have := h.z1; omega) (by have := h.z2; omega) h.z3
  have hz : s.sizes ≠ [] := fun q => by have := h.z1; rw [q] at this; simp at this
  have m1 := are_most_ok s.r1 s.r2 1 3 4 (by have := h.r1; omega) (by have := h.r2; omega) h.r1.1 h.r1.2 h.r2.2
  have m2 := are_most_ok s.c1 s.c2 0 2 2 (by have := h.c1; omega) (by have := h.c2; omega) h.c1.1 h.c1.2 h.c2.2
  simp_arith [n1, n2, x_is_setup_ok _ _ _ _ s.sizes (by have := h.z2; omega) hz, boolsOf_map, all_map_id, ups_all, h.z4, m1, m2]
theorem check_setup_ok (s : Su) (h : s.ok) : f_check_setup [s.d] = .ok false .none [] := by
  unfold f_check_setup c_check_setup
  simp_arith [is_setup_ok s h]
/-! ### rules -/
inductive Dd where
  | group | single | part | go
  deriving DecidableEq
def Dd.s : Dd → Str
  | .group => "group"
  | .single => "single"
  | .part => "part"
  | .go => "go"
theorem Dd.inj {a b : Dd} : a.s = b.s ↔ a = b := by cases a <;> cases b <;> simp only [Dd.s] <;> decide +kernel
structure Rr where
  mood : Int
  f : Int × Int
  l : Int × Int
  w : Int × Int
  deed : Dd
  after : Int
def rngP (p : Int × Int) : D := .tuple [.int p.1, .int p.2]
def Rr.d (r : Rr) : D := .tuple [.int r.mood, rngP r.f, rngP r.l, rngP r.w, .str r.deed.s, .int r.after]
def Rg (p : Int × Int) : Prop := 0 ≤ p.1 ∧ p.1 ≤ p.2 ∧ p.2 ≤ 9
structure Rr.ok (r : Rr) : Prop where
  m : 0 ≤ r.mood ∧ r.mood ≤ 2
  f : Rg r.f
  l : Rg r.l
  w : Rg r.w
  a : 0 ≤ r.after ∧ r.after ≤ 2
def ruD (rs : List Rr) : D := .tuple (rs.map Rr.d)
def RuOk (rs : List Rr) : Prop := rs.length ≤ 8 ∧ ∀ r ∈ rs, r.ok
theorem is_range_ok (p : Int × Int) (h : Rg p) : f_is_range [rngP p] = .ok false (.bool true) [] := by
  obtain ⟨h1, h2, h3⟩ := h
  unfold f_is_range c_is_range rngP
  simp_arith [are_numbers_two p.1 p.2 0 9 (by omega) (by omega), h2]
theorem in_deeds (d : Dd) : inD (.str d.s) (.tuple [.str "group", .str "single", .str "part", .str "go"]) = some true := by
  cases d <;> decide +kernel
theorem is_rule_row_ok (r : Rr) (h : r.ok) : f_is_rule_row [r.d] = .ok false (.bool true) [] := by
  have h1 := is_range_ok r.f h.f
  have h2 := is_range_ok r.l h.l
  have h3 := is_range_ok r.w h.w
  unfold f_is_rule_row c_is_rule_row Rr.d
  simp_arith [is_number_int, h.m, h.a, h1, h2, h3, in_deeds]
theorem x_is_rule_ok (rs : List Rr) (h : RuOk rs) : evalE x_is_rule_0 [.sh (ruD rs), .un] = .ok (.ow (.list (rs.map fun _ => .bool true))) [.sh (ruD rs), .un] := by
  unfold x_is_rule_0 ruD
  exact lc_map' Rr.d rs _ (by simp_arith) (by simp_arith) (by have := h.1; omega) fun r hr => by
    simp_arith [is_rule_row_ok r (h.2 r hr)]
theorem all_true {α : Type} (l : List α) : (l.all fun _ => true) = true := by simp
theorem is_rule_ok (rs : List Rr) (h : RuOk rs) : f_is_rule [ruD rs] = .ok false (.bool true) [] := by
  have x := x_is_rule_ok rs h
  have h3 : ¬ (8 : Int) < (rs.length : Int) := by have := h.1; omega
  unfold f_is_rule c_is_rule
  unfold ruD at *
  simp_arith [List.length_map, h3, x, boolsOf_map, all_map_id, all_true]
theorem check_both_ok (s : Su) (h : s.ok) (rs : List Rr) (hr : RuOk rs) : f_check_both [s.d, ruD rs] = .ok false .none [] := by
  unfold f_check_both c_check_both
  simp_arith [check_setup_ok s h, is_rule_ok rs hr]
/-! ### comers, rows -/
structure Cm where
  gs : List Int
  n : Int
def Cm.d (c : Cm) : D := .tuple [.tuple (intL c.gs), .int c.n]
structure Cm.ok (s : Su) (c : Cm) : Prop where
  g1 : (c.gs.length : Int) ≤ s.c1
  g2 : ∀ n ∈ c.gs, n ∈ s.sizes
  n1 : 0 ≤ c.n ∧ c.n ≤ s.c2
theorem mem_intL {n : Int} {ns : List Int} : PyData.int n ∈ intL ns ↔ n ∈ ns := by
  unfold intL
  simp
theorem is_size_ok (s : Su) (h : s.ok) (n : Int) (hn : n ∈ s.sizes) : f_is_size [s.d, .int n] = .ok false (.bool true) [] := by
  unfold f_is_size c_is_size Su.d
  have hz := h.z3 n hn
  have hi := (inD_pl (x := .int n) (ds := intL s.sizes) 5 pl_int pls_intL).2
  simp only [mem_intL, hn, decide_true] at hi
  simp_arith [is_number_int, hz.1, hz.2, hi]
theorem x_is_comers_ok (s : Su) (h : s.ok) (ns : List Int) (hns : ∀ n ∈ ns, n ∈ s.sizes) (hl : ns.length ≤ 1000) (a b : Sl) : evalE x_is_comers_0 [.sh s.d, a, .sh (.tuple (intL ns)), b, .un] =
    .ok (.ow (.list (ns.map fun _ => .bool true))) [.sh s.d, a, .sh (.tuple (intL ns)), b, .un] := by
  unfold x_is_comers_0
  exact lc_map' PyData.int ns _ (by simp_arith; rfl) (by simp_arith) (by omega) fun n hn => by
    simp_arith [is_size_ok s h n (hns n hn)]
theorem is_comers_ok (s : Su) (h : s.ok) (c : Cm) (hc : c.ok s) : f_is_comers [s.d, c.d] = .ok false (.bool true) [] := by
  unfold f_is_comers c_is_comers
  have hl : c.gs.length ≤ 1000 := by have := hc.g1; have := h.c1; omega
  have x := x_is_comers_ok s h c.gs hc.g2 hl
  have h3 : ¬ (s.c1 < (c.gs.length : Int)) := by have := hc.g1; omega
  unfold Su.d at x ⊢
  unfold Cm.d at *
  simp_arith [intL_len, h3, x, boolsOf_map, all_map_id, all_true, is_number_int, hc.n1]
def rowD (rs : List Cm) : D := .list (rs.map Cm.d)
theorem row_fault_ok (s : Su) (h : s.ok) (rs : List Cm) (hr : ∀ c ∈ rs, c.ok s) (m : Int) (h0 : 0 ≤ m) (hm : (rs.length : Int) ≤ m) : f_row_fault [s.d, rowD rs, .int m] = .ok false .none [] := by
  have key := (forL_fold (body := evalSs fuel x_row_fault_0) (tg := .tup [.nm 3, .nm 4]) (fg := [3, 4]) (fun _ : Unit => [.sh s.d, .sh (rowD rs), .sh (.int m), .un, .un]) (fun p : Cm × Nat => .tuple [.int (p.2 : Nat), p.1.d]) (fun _ _ => ()) (fun _ ps => ∀ p ∈ ps, p.1 ∈ rs)
    (fun _ p ps hp => ⟨by
      unfold x_row_fault_0
      simp_arith [is_comers_ok s h p.1 (hr _ (hp p List.mem_cons_self))], fun q hq => hp q (List.mem_cons_of_mem _ hq)⟩) (rs.zipIdx 0) () [.sh s.d, .sh (rowD rs), .sh (.int m), .un, .un] (by simp_arith) (fun p hp => by
        obtain ⟨h1, h2, h3⟩ := List.mem_zipIdx (x := p.1) (i := p.2) hp
        rw [h3]; exact List.getElem_mem _)).1
  have hl : ((rs.map Cm.d).length : Int) ≤ m := by rw [List.length_map]; exact hm
  have h3 : ¬ (m < (rs.length : Int)) := by omega
  unfold f_row_fault c_row_fault x_row_fault_1
  unfold rowD at *
  simp_arith [cut_all _ m h0 hl, enum_map, key, List.length_map, h3]
theorem check_row_ok (s : Su) (h : s.ok) (rs : List Cm) (hr : ∀ c ∈ rs, c.ok s) (m : Int) (h0 : 0 ≤ m) (hm : (rs.length : Int) ≤ m) : f_check_row [s.d, rowD rs, .int m] = .ok false .none [] := by
  unfold f_check_row c_check_row
  simp_arith [row_fault_ok s h rs hr m h0 hm]
/-! ### beats -/
theorem eqD_nil (l : List Int) : eqD (.tuple (intL l)) (.tuple []) = some (decide (l = [])) := by
  rw [eqD_tup (n := 1) Shp.intL (shp_nil rfl), eqvAll_nil_r]
  cases l <;> rfl
theorem eqD_lnil (l : List Int) : eqD (.list (intL l)) (.list []) = some (decide (l = [])) := by
  rw [eqD_pl 5 (by rw [pl_lst]; exact pls_intL) (by rw [pl_lst]; exact pls_nil)]
  cases l <;> simp [intL]
theorem front_of_ok (l : List Int) : f_front_of [.tuple (intL l)] = .ok false (.int (l.headD 0)) [] := by
  unfold f_front_of c_front_of
  simp_arith [eqD_nil]
  cases l with
  | nil => simp_arith [List.headD_nil]
  | cons x l => simp_arith [List.cons_ne_nil, intL, List.headD_cons]
def canM (d : Dd) (front left singles : Int) : Bool := match d with
  | .group => decide (0 < front ∧ front ≤ left)
  | .single => decide (0 < singles ∧ 0 < left)
  | .part => decide (left < front ∧ 0 < left)
  | .go => true
theorem can_be_done_ok (d : Dd) (front left singles : Int) : f_can_be_done [.str d.s, .int front, .int left, .int singles] = .ok false (.bool (canM d front left singles)) [] := by
  have e : ∀ a b : Str, (a == b) = decide (a = b) := fun a b => by by_cases h : a = b <;> simp [h]
  unfold f_can_be_done c_can_be_done
  cases d with
  | group =>
    simp_arith [Dd.s, e, show (("group" : Str) = "group") = True by simp]
    unfold canM
    by_cases h : 0 < front <;> simp [h, endRet, iosOf]
  | single =>
    simp_arith [Dd.s, e, show (("single" : Str) = "group") = False by decide +kernel, show (("single" : Str) = "single") = True by simp]
    unfold canM
    by_cases h : 0 < singles <;> simp [h, endRet, iosOf]
  | part =>
    simp_arith [Dd.s, e, show (("part" : Str) = "group") = False by decide +kernel, show (("part" : Str) = "single") = False by decide +kernel, show (("part" : Str) = "part") = True by simp]
    unfold canM
    by_cases h : left < front <;> simp [h, endRet, iosOf]
  | go =>
    simp_arith [Dd.s, e, show (("go" : Str) = "group") = False by decide +kernel, show (("go" : Str) = "single") = False by decide +kernel, show (("go" : Str) = "part") = False by decide +kernel]
    rfl
def fitsM (mood front left singles : Int) (r : Rr) : Bool := decide (r.mood = mood) && inRgg r.f.1 r.f.2 front && inRgg r.l.1 r.l.2 left && inRgg r.w.1 r.w.2 singles && canM r.deed front left singles
def optD (o : Option Rr) : D := match o with
  | some r => r.d
  | none => .none
theorem fitting_row_ok (rs : List Rr) (mood : Int) (l : List Int) (singles left : Int) : f_fitting_row [ruD rs, .int mood, .tuple (intL l), .int singles, .int left] = .ok false (optD (rs.find? (fitsM mood (l.headD 0) left singles))) [] := by
  have key := forL_P (body := evalSs fuel x_fitting_row_0) (tg := .nm 6) (fg := [6, 7]) (fun _ : Unit => [.sh (ruD rs), .sh (.int mood), .sh (.tuple (intL l)), .sh (.int singles), .sh (.int left), .sh (.int (l.headD 0)), .un, .un]) Rr.d
    (fun _ qs => rs.find? (fitsM mood (l.headD 0) left singles) = qs.find? (fitsM mood (l.headD 0) left singles)) (fun o => match rs.find? (fitsM mood (l.headD 0) left singles) with
      | some r => o = .ret (.sh r.d) [.sh (ruD rs), .sh (.int mood), .sh (.tuple (intL l)), .sh (.int singles), .sh (.int left), .sh (.int (l.headD 0)), .sh r.d, .sh (.bool true)]
      | none => o = .next [.sh (ruD rs), .sh (.int mood), .sh (.tuple (intL l)), .sh (.int singles), .sh (.int left), .sh (.int (l.headD 0)), .un, .un])
    (fun _ r qs hq => by
      have cb := can_be_done_ok r.deed (l.headD 0) left singles
      generalize hfr : l.headD 0 = front at *
      by_cases hf : fitsM mood front left singles r = true
      · refine .inr (.inr (.inl ⟨.sh r.d, [.sh (ruD rs), .sh (.int mood), .sh (.tuple (intL l)), .sh (.int singles), .sh (.int left), .sh (.int front), .sh r.d, .sh (.bool true)], ?_, ?_⟩))
        · unfold fitsM inRgg at hf
          simp only [Bool.and_eq_true, decide_eq_true_eq] at hf
          obtain ⟨⟨⟨⟨h1, h2⟩, h3⟩, h4⟩, h5⟩ := hf
          unfold x_fitting_row_0 Rr.d rngP
          simp_arith [h1, h2, h3, h4, h5, cb]
        · rw [hq, List.find?_cons, hf]
      · have hf' : fitsM mood front left singles r = false := by simpa using hf
        refine .inl ⟨(), ?_, by rw [hq, List.find?_cons, hf']⟩
        unfold x_fitting_row_0 Rr.d rngP
        unfold fitsM inRgg at hf'
        by_cases h1 : r.mood = mood
        · by_cases h2 : r.f.1 ≤ front
          · by_cases h2' : front ≤ r.f.2
            · by_cases h3 : r.l.1 ≤ left
              · by_cases h3' : left ≤ r.l.2
                · by_cases h4 : r.w.1 ≤ singles
                  · by_cases h4' : singles ≤ r.w.2
                    · simp only [h1, h2, h2', h3, h3', h4, h4', and_self, decide_true, Bool.and_self, Bool.true_and] at hf'
                      simp_arith [h1, h2, h2', h3, h3', h4, h4', cb, hf']
                    · simp_arith [h1, h2, h2', h3, h3', h4, h4']
                  · simp_arith [h1, h2, h2', h3, h3', h4]
                · simp_arith [h1, h2, h2', h3, h3']
              · simp_arith [h1, h2, h2', h3]
            · simp_arith [h1, h2, h2']
          · simp_arith [h1, h2]
        · by_cases h2 : r.f.1 ≤ front
          · by_cases h2' : front ≤ r.f.2
            · by_cases h3 : r.l.1 ≤ left <;> simp_arith [h1, h2, h2', h3]
            · simp_arith [h1, h2, h2']
          · simp_arith [h1, h2])
    (fun _ hq => by rw [List.find?_nil] at hq; rw [hq]) rs () [.sh (ruD rs), .sh (.int mood), .sh (.tuple (intL l)), .sh (.int singles), .sh (.int left), .sh (.int (l.headD 0)), .un, .un] (by simp_arith) rfl
  unfold f_fitting_row c_fitting_row x_fitting_row_1
  cases hfind : rs.find? (fitsM mood (l.headD 0) left singles) with
  | none =>
    rw [hfind] at key
    unfold ruD at *
    simp_arith [front_of_ok, key]
    rfl
  | some r =>
    rw [hfind] at key
    unfold ruD at *
    simp_arith [front_of_ok, key]
    rfl
end
end Pg

end

-- MBt
section
/-! MBt: beats. -/
namespace Pg
open PySem L2 Ev
noncomputable section
local macro_rules | `(tactic| simp_arith [$ls,*]) => `(tactic| simp (config := { decide := false }) only [run_fin, Def.start, parSl, Option.map_some, List.replicate, List.cons_append, List.nil_append, List.append_nil, evalSs, evalS, evalE, ↓turn_def, ↓wturn_def, cl_next, cl_cnt, cl_brk, cl_ret, cl_exc, cl_bad, cl_ite, ↓lcC_def, evalEs, evalB, evalAs, evalT, evalTs, evalO, evalI, evalC, bind_ok', bind_bad', bind_exc', bind_ite, out_ok', out_bad', out_exc', out_ite, seq_next, seq_ret, seq_brk, seq_cnt, seq_exc, seq_bad, seq_ite, fin_next, fin_ret, fin_bad, fin_exc, fin_ite, nextO, op1, op2, ↓op2b_def, opN, giveT, getAll, Tm.get, Tm.esc, slot, Sl.get, share, take, takeAll, mkT, truOf, truD, cmpB, cmpD, ordD, binD, negD, notD, idxD, slcD, revD, biD, isiD, isD, isNone, ↓lcT_def, onTg, clr, rst, Res.noExc, List.map_cons, List.map_nil, List.all_cons, List.all_nil, plainAt, Sl.plain, Bool.and_true, Bool.and_self, tgIx, tgsIx, itemsOf, asgS, asgTg, asgTgs, Sl.opt, iosOf, endRet, doCall, doCallN, doCallB, isScal, lsetD, arGet, arIos, putIos, putIo, chgI, chgE, setAt, appAt, extAt, ownL, newL, newT, exAt, setX, noEx, Sl.notEx, evalHs, popE, popIx, augD, parS, eqD_int, eqD_str, at0, at1, at2, at3, at4, at5, w_group_group, w_group_single, w_group_part, w_group_go, w_single_group, w_single_single, w_single_part, w_single_go, w_part_group, w_part_single, w_part_part, w_part_go, w_go_group, w_go_single, w_go_part, w_go_go, sm0, sm1, sm2, sm3, sm4, sm5, sm6, sm7, sm8, sm9, sm10, sm11, sm12, sm13, sm14, sm15, sm16, sm17, sm18, sm19, sm20, sm21, sm22, sm23, sm24, sm25, sm26, sm27, sm28, sm29, sm30, sm31, sm32, sm33, sm34, sm35, sm36, sm37, sm38, sm39, sm40, List.getElem?_cons_zero, List.getElem?_cons_succ, List.set_cons_zero, List.set_cons_succ, List.nodup_nil, if_true, if_false, Bool.not_true, Bool.not_false, ↓reduceIte, Bool.false_eq_true, decide_eq_true_eq, List.nodup_cons, List.not_mem_nil, not_false_eq_true, and_self, true_and, and_true, Option.bind_some, Option.isSome_some, Option.getD_some, reduceCtorEq, decide_true, decide_false, Int.reduceLE, Int.reduceLT, Int.reduceEq, Int.reduceNe, Int.reduceAdd, Int.reduceSub, Int.reduceNeg, Nat.reduceAdd, Nat.reduceLeDiff, Int.cast_ofNat_Int, eq_self, List.length_cons, List.length_nil, Nat.zero_add, $ls,*])
local macro_rules | `(tactic| simp_arith) => `(tactic| simp (config := { decide := false }) only [run_fin, Def.start, parSl, Option.map_some, List.replicate, List.cons_append, List.nil_append, List.append_nil, evalSs, evalS, evalE, ↓turn_def, ↓wturn_def, cl_next, cl_cnt, cl_brk, cl_ret, cl_exc, cl_bad, cl_ite, ↓lcC_def, evalEs, evalB, evalAs, evalT, evalTs, evalO, evalI, evalC, bind_ok', bind_bad', bind_exc', bind_ite, out_ok', out_bad', out_exc', out_ite, seq_next, seq_ret, seq_brk, seq_cnt, seq_exc, seq_bad, seq_ite, fin_next, fin_ret, fin_bad, fin_exc, fin_ite, nextO, op1, op2, ↓op2b_def, opN, giveT, getAll, Tm.get, Tm.esc, slot, Sl.get, share, take, takeAll, mkT, truOf, truD, cmpB, cmpD, ordD, binD, negD, notD, idxD, slcD, revD, biD, isiD, isD, isNone, ↓lcT_def, onTg, clr, rst, Res.noExc, List.map_cons, List.map_nil, List.all_cons, List.all_nil, plainAt, Sl.plain, Bool.and_true, Bool.and_self, tgIx, tgsIx, itemsOf, asgS, asgTg, asgTgs, Sl.opt, iosOf, endRet, doCall, doCallN, doCallB, isScal, lsetD, arGet, arIos, putIos, putIo, chgI, chgE, setAt, appAt, extAt, ownL, newL, newT, exAt, setX, noEx, Sl.notEx, evalHs, popE, popIx, augD, parS, eqD_int, eqD_str, at0, at1, at2, at3, at4, at5, w_group_group, w_group_single, w_group_part, w_group_go, w_single_group, w_single_single, w_single_part, w_single_go, w_part_group, w_part_single, w_part_part, w_part_go, w_go_group, w_go_single, w_go_part, w_go_go, sm0, sm1, sm2, sm3, sm4, sm5, sm6, sm7, sm8, sm9, sm10, sm11, sm12, sm13, sm14, sm15, sm16, sm17, sm18, sm19, sm20, sm21, sm22, sm23, sm24, sm25, sm26, sm27, sm28, sm29, sm30, sm31, sm32, sm33, sm34, sm35, sm36, sm37, sm38, sm39, sm40, List.getElem?_cons_zero, List.getElem?_cons_succ, List.set_cons_zero, List.set_cons_succ, List.nodup_nil, if_true, if_false, Bool.not_true, Bool.not_false, ↓reduceIte, Bool.false_eq_true, decide_eq_true_eq, List.nodup_cons, List.not_mem_nil, not_false_eq_true, and_self, true_and, and_true, Option.bind_some, Option.isSome_some, Option.getD_some, reduceCtorEq, decide_true, decide_false, Int.reduceLE, Int.reduceLT, Int.reduceEq, Int.reduceNe, Int.reduceAdd, Int.reduceSub, Int.reduceNeg, Nat.reduceAdd, Nat.reduceLeDiff, Int.cast_ofNat_Int, eq_self, List.length_cons, List.length_nil, Nat.zero_add])
abbrev Dn := Dd × Int
def dnD (p : Dn) : D := .tuple [.str p.1.s, .int p.2]
/-- what a deed does: the deed done, line, singles, left -/
def seatM (d : Dd) (line : List Int) (singles left : Int) : Dn × List Int × Int × Int := match d with
  | .group => ((.group, line.headD 0), line.tail, singles, left - line.headD 0)
  | .single => ((.single, 1), line, singles - 1, left - 1)
  | _ => ((.part, left), (line.headD 0 - left) :: line.tail, singles, 0)
theorem canM_line {d : Dd} {line : List Int} {left singles : Int} (h : canM d (line.headD 0) left singles = true) (hd : d = .group ∨ d = .part) : ∃ x xs, line = x :: xs ∧ 0 < x ∧ 0 < left := by
  cases line with
  | nil => rcases hd with rfl | rfl <;> simp [canM] at h; omega
  | cons x xs =>
    refine ⟨x, xs, rfl, ?_⟩
    rcases hd with rfl | rfl <;> simp [canM] at h <;> omega
theorem seat_left {d : Dd} {line : List Int} {left singles : Int} (h : canM d (line.headD 0) left singles = true) (hd : d ≠ .go) : 0 ≤ (seatM d line singles left).2.2.2 ∧ (seatM d line singles left).2.2.2 < left := by
  cases d with
  | group => obtain ⟨x, xs, rfl, h1, h2⟩ := canM_line h (.inl rfl); simp [canM, seatM] at *; omega
  | single => simp [canM, seatM] at *; omega
  | part => obtain ⟨x, xs, rfl, h1, h2⟩ := canM_line h (.inr rfl); simp [seatM]; omega
  | go => exact absurd rfl hd
theorem seated_ok (d : Dd) (hd : d ≠ .go) (line : List Int) (singles left : Int) (h : canM d (line.headD 0) left singles = true) (hl : line.length ≤ 1000) :
    f_seated [.str d.s, .tuple (intL line), .int singles, .int left] = .ok false (.tuple [dnD (seatM d line singles left).1, .tuple (intL (seatM d line singles left).2.1), .int (seatM d line singles left).2.2.1, .int (seatM d line singles left).2.2.2]) [] := by
  have e : ∀ a b : Str, (a == b) = decide (a = b) := fun a b => by by_cases h : a = b <;> simp [h]
  unfold f_seated c_seated
  cases d with
  | go => exact absurd rfl hd
  | group =>
    obtain ⟨x, xs, rfl, h1, h2⟩ := canM_line h (.inl rfl)
    unfold intL
    simp_arith [Dd.s, e, show (("group" : Str) = "group") = True by simp, List.map_cons, cut_tail]
    rfl
  | single =>
    simp_arith [Dd.s, e, show (("single" : Str) = "group") = False by decide +kernel, show (("single" : Str) = "single") = True by simp]
    rfl
  | part =>
    obtain ⟨x, xs, rfl, h1, h2⟩ := canM_line h (.inr rfl)
    have hz : Sm (xs.length + 1) := by simp only [List.length_cons] at hl; exact sm
    unfold intL
    simp_arith [Dd.s, e, show (("part" : Str) = "group") = False by decide +kernel, show (("part" : Str) = "single") = False by decide +kernel, List.map_cons, cut_tail, List.length_map, Nat.add_comm 1, hz]
    rfl
structure Fl where
  deeds : List Dn
  left : Int
  line : List Int
  singles : Int
  mood : Int
/-- the chair filled by a rule -/
def fillM (rs : List Rr) (line : List Int) (singles left mood : Int) : Fl := match h : rs.find? (fitsM mood (line.headD 0) left singles) with
  | none => ⟨[], left, line, singles, mood⟩
  | some r => if hd : r.deed = .go then ⟨[], left, line, singles, r.after⟩ else
    let q := seatM r.deed line singles left
    let z := fillM rs q.2.1 q.2.2.1 q.2.2.2 r.after
    ⟨q.1 :: z.deeds, z.left, z.line, z.singles, z.mood⟩
termination_by left.toNat
decreasing_by
  have hf := List.find?_some h
  simp only [fitsM, Bool.and_eq_true] at hf
  have := seat_left hf.2 hd
  omega
theorem fillM_none {rs : List Rr} {line : List Int} {singles left mood : Int} (h : rs.find? (fitsM mood (line.headD 0) left singles) = none) : fillM rs line singles left mood = ⟨[], left, line, singles, mood⟩ := by
  rw [fillM]; split
  · rfl
  · rename_i q; rw [h] at q; cases q
theorem fillM_go {rs : List Rr} {line : List Int} {singles left mood : Int} {r : Rr} (h : rs.find? (fitsM mood (line.headD 0) left singles) = some r) (hd : r.deed = .go) : fillM rs line singles left mood = ⟨[], left, line, singles, r.after⟩ := by
  rw [fillM]; split
  · rename_i q; rw [h] at q; cases q
  · rename_i q; rw [h] at q; cases q; rw [dif_pos hd]
theorem fillM_do {rs : List Rr} {line : List Int} {singles left mood : Int} {r : Rr} (h : rs.find? (fitsM mood (line.headD 0) left singles) = some r) (hd : r.deed ≠ .go) : fillM rs line singles left mood =
    ⟨(seatM r.deed line singles left).1 :: (fillM rs (seatM r.deed line singles left).2.1 (seatM r.deed line singles left).2.2.1 (seatM r.deed line singles left).2.2.2 r.after).deeds,
      (fillM rs (seatM r.deed line singles left).2.1 (seatM r.deed line singles left).2.2.1 (seatM r.deed line singles left).2.2.2 r.after).left,
      (fillM rs (seatM r.deed line singles left).2.1 (seatM r.deed line singles left).2.2.1 (seatM r.deed line singles left).2.2.2 r.after).line,
      (fillM rs (seatM r.deed line singles left).2.1 (seatM r.deed line singles left).2.2.1 (seatM r.deed line singles left).2.2.2 r.after).singles,
      (fillM rs (seatM r.deed line singles left).2.1 (seatM r.deed line singles left).2.2.1 (seatM r.deed line singles left).2.2.2 r.after).mood⟩ := by
  conv => lhs; rw [fillM]
  split
  · rename_i q; rw [h] at q; cases q
  · rename_i q; rw [h] at q; cases q; rw [dif_neg hd]
theorem find_can {rs : List Rr} {line : List Int} {singles left mood : Int} {r : Rr} (h : rs.find? (fitsM mood (line.headD 0) left singles) = some r) : canM r.deed (line.headD 0) left singles = true := by
  have hf := List.find?_some h
  simp only [fitsM, Bool.and_eq_true] at hf
  exact hf.2
theorem seat_len {d : Dd} {line : List Int} {left singles : Int} (h : canM d (line.headD 0) left singles = true) (hd : d ≠ .go) : (seatM d line singles left).2.1.length ≤ line.length := by
  cases d with
  | group => simp [seatM]
  | single => simp [seatM]
  | part => obtain ⟨x, xs, rfl, h1, h2⟩ := canM_line h (.inr rfl); simp [seatM]
  | go => exact absurd rfl hd
/-- an invariant of filling -/
theorem fillM_ind (rs : List Rr) (P : List Int → Int → Int → Int → Prop) (hs : ∀ line singles left mood r, P line singles left mood → r ∈ rs → fitsM mood (line.headD 0) left singles r = true → r.deed ≠ .go → P (seatM r.deed line singles left).2.1 (seatM r.deed line singles left).2.2.1 (seatM r.deed line singles left).2.2.2 r.after)
    (hg : ∀ line singles left mood r, P line singles left mood → r ∈ rs → P line singles left r.after) : ∀ (n : Nat) (line : List Int) (singles left mood : Int), left.toNat ≤ n → P line singles left mood →
    P (fillM rs line singles left mood).line (fillM rs line singles left mood).singles (fillM rs line singles left mood).left (fillM rs line singles left mood).mood := by
  intro n
  induction n with
  | zero =>
    intro line singles left mood hn h
    cases hf : rs.find? (fitsM mood (line.headD 0) left singles) with
    | none => rw [fillM_none hf]; exact h
    | some r =>
      have hd : r.deed = .go := by
        by_cases hd : r.deed = .go
        · exact hd
        · have := seat_left (find_can hf) hd; omega
      rw [fillM_go hf hd]
      exact hg _ _ _ _ r h (List.mem_of_find?_eq_some hf)
  | succ n ih =>
    intro line singles left mood hn h
    cases hf : rs.find? (fitsM mood (line.headD 0) left singles) with
    | none => rw [fillM_none hf]; exact h
    | some r =>
      by_cases hd : r.deed = .go
      · rw [fillM_go hf hd]
        exact hg _ _ _ _ r h (List.mem_of_find?_eq_some hf)
      · rw [fillM_do hf hd]
        have := seat_left (find_can hf) hd
        exact ih _ _ _ _ (by omega) (hs _ _ _ _ r h (List.mem_of_find?_eq_some hf) (List.find?_some hf) hd)
theorem flen (rs : List Rr) : ∀ (n : Nat) (line : List Int) (singles left mood : Int), left.toNat ≤ n → (fillM rs line singles left mood).deeds.length ≤ n := by
  intro n
  induction n with
  | zero =>
    intro line singles left mood hn
    cases hf : rs.find? (fitsM mood (line.headD 0) left singles) with
    | none => rw [fillM_none hf]; simp
    | some r =>
      have hd : r.deed = .go := by
        by_cases hd : r.deed = .go
        · exact hd
        · have := seat_left (find_can hf) hd; omega
      rw [fillM_go hf hd]; simp
  | succ n ih =>
    intro line singles left mood hn
    cases hf : rs.find? (fitsM mood (line.headD 0) left singles) with
    | none => rw [fillM_none hf]; simp
    | some r =>
      by_cases hd : r.deed = .go
      · rw [fillM_go hf hd]; simp
      · rw [fillM_do hf hd]
        have := seat_left (find_can hf) hd
        have := ih (seatM r.deed line singles left).2.1 (seatM r.deed line singles left).2.2.1 (seatM r.deed line singles left).2.2.2 r.after (by omega)
        simp only [List.length_cons]
        omega
theorem str_eq (a b : Str) : (a == b) = decide (a = b) := by by_cases h : a = b <;> simp [h]
theorem go_beq (d : Dd) : (d.s == ("go" : Str)) = decide (d = .go) := by
  rw [str_eq]
  by_cases h : d = .go
  · rw [h]; rfl
  · rw [decide_eq_false h, decide_eq_false]
    exact fun q => h (Dd.inj.mp q)
theorem optD_none : optD none = .none := rfl
theorem optD_some (r : Rr) : optD (some r) = r.d := rfl
def flSt (rs : List Rr) (seats : Sl) (a : List Dn × List Int × Int × Int × Int) : Rho := [.sh (ruD rs), .sh (.tuple (intL a.2.1)), .sh (.int a.2.2.1), seats, .sh (.int a.2.2.2.2), .sh (.int a.2.2.2.1), .ow (.list (a.1.map dnD)),
  .sh (optD (rs.find? (fitsM a.2.2.2.2 (a.2.1.headD 0) a.2.2.2.1 a.2.2.1))), .un]
theorem fill_ok (rs : List Rr) (line : List Int) (singles seats mood : Int) (hl : line.length ≤ 1000) (hs : seats ≤ 100) : f_fill [ruD rs, .tuple (intL line), .int singles, .int seats, .int mood] =
    .ok false (.tuple [.tuple ((fillM rs line singles seats mood).deeds.map dnD), .int (fillM rs line singles seats mood).left, .tuple (intL (fillM rs line singles seats mood).line), .int (fillM rs line singles seats mood).singles, .int (fillM rs line singles seats mood).mood]) [] := by
  have key := whlL_P (test := evalT x_fill_0) (body := evalSs fuel x_fill_1) (fg := [8]) (flSt rs (.sh (.int seats)))
    (fun a => a.2.1.length ≤ 1000 ∧ a.2.2.2.1.toNat + a.1.length ≤ 100 ∧ (a.1 ++ (fillM rs a.2.1 a.2.2.1 a.2.2.2.1 a.2.2.2.2).deeds, (fillM rs a.2.1 a.2.2.1 a.2.2.2.1 a.2.2.2.2).left, (fillM rs a.2.1 a.2.2.1 a.2.2.2.1 a.2.2.2.2).line, (fillM rs a.2.1 a.2.2.1 a.2.2.2.1 a.2.2.2.2).singles, (fillM rs a.2.1 a.2.2.1 a.2.2.2.1 a.2.2.2.2).mood) =
      ((fillM rs line singles seats mood).deeds, (fillM rs line singles seats mood).left, (fillM rs line singles seats mood).line, (fillM rs line singles seats mood).singles, (fillM rs line singles seats mood).mood)) (fun a => a.2.2.2.1.toNat)
    (fun o => ∃ line' singles' left mood', o = .next (flSt rs (.sh (.int seats)) ((fillM rs line singles seats mood).deeds, line', singles', left, mood')) ∧ line' = (fillM rs line singles seats mood).line ∧ singles' = (fillM rs line singles seats mood).singles ∧ left = (fillM rs line singles seats mood).left ∧
      (match rs.find? (fitsM mood' (line'.headD 0) left singles') with | some r => r.after | none => mood') = (fillM rs line singles seats mood).mood)
    (fun a ⟨h1, h2, h3⟩ => by
      obtain ⟨ds, li, si, le, mo⟩ := a
      simp only [Prod.mk.injEq] at h1 h2 h3 ⊢
      obtain ⟨k1, k2, k3, k4, k5⟩ := h3
      cases hf : rs.find? (fitsM mo (li.headD 0) le si) with
      | none =>
        rw [fillM_none hf] at k1 k2 k3 k4 k5
        refine .inr (.inl ⟨flSt rs (.sh (.int seats)) (ds, li, si, le, mo), ?_, li, si, le, mo, ?_, k3, k4, k2, ?_⟩)
        · unfold flSt x_fill_0
          simp_arith [hf, optD_none]
        · rw [← k1]; simp
        · rw [hf]; exact k5
      | some r =>
        by_cases hd : r.deed = .go
        · rw [fillM_go hf hd] at k1 k2 k3 k4 k5
          refine .inr (.inl ⟨flSt rs (.sh (.int seats)) (ds, li, si, le, mo), ?_, li, si, le, mo, ?_, k3, k4, k2, ?_⟩)
          · unfold flSt x_fill_0
            simp_arith [hf, optD_none, optD_some, Rr.d, go_beq, hd]
          · rw [← k1]; simp
          · rw [hf]; exact k5
        · rw [fillM_do hf hd] at k1 k2 k3 k4 k5
          have hc := find_can hf
          have hlt := seat_left hc hd
          refine .inl ⟨(ds ++ [(seatM r.deed li si le).1], (seatM r.deed li si le).2.1, (seatM r.deed li si le).2.2.1, (seatM r.deed li si le).2.2.2, r.after), ?_, ⟨Nat.le_trans (seat_len hc hd) h1, ?_, ?_⟩, by simp only; omega⟩
          · have hse := seated_ok r.deed hd li si le hc h1
            have hfit := fitting_row_ok rs r.after (seatM r.deed li si le).2.1 (seatM r.deed li si le).2.2.1 (seatM r.deed li si le).2.2.2
            have hlen : Sm (ds.length + 1) := sm
            unfold flSt x_fill_0 x_fill_1
            simp_arith [hf, optD_some, Rr.d, go_beq, hd, hse, hfit, List.length_map, hlen, List.map_append]
          · simp only [List.length_append, List.length_singleton]; omega
          · simp only [Prod.mk.injEq]
            refine ⟨?_, k2, k3, k4, k5⟩
            rw [← k1]; simp)
    fuel ([], line, singles, seats, mood) (flSt rs (.sh (.int seats)) ([], line, singles, seats, mood)) (by unfold flSt; simp_arith) ⟨hl, by simp only [List.length_nil]; omega, by simp⟩ (by unfold fuel; simp only; omega)
  obtain ⟨line', singles', left, mood', e, e1, e2, e3, e4⟩ := key
  have hfit := fitting_row_ok rs mood line singles seats
  unfold f_fill c_fill x_fill_2
  simp only [flSt, List.map_nil] at e
  cases hf : rs.find? (fitsM mood' (line'.headD 0) left singles') with
  | none =>
    rw [hf] at e4 e
    simp only at e4
    simp_arith [hfit, e, optD_none, e1, e2, e3, e4]
  | some r =>
    rw [hf] at e4 e
    simp only at e4
    simp_arith [hfit, e, optD_some, Rr.d, e1, e2, e3, e4]
end
end Pg

end

-- MRun
section
/-! MRun: the comers let in, a beat, a row. -/
namespace Pg
open PySem L2 Ev
noncomputable section
local macro_rules | `(tactic| simp_arith [$ls,*]) => `(tactic| simp (config := { decide := false }) only [run_fin, Def.start, parSl, Option.map_some, List.replicate, List.cons_append, List.nil_append, List.append_nil, evalSs, evalS, evalE, ↓turn_def, ↓wturn_def, cl_next, cl_cnt, cl_brk, cl_ret, cl_exc, cl_bad, cl_ite, ↓lcC_def, evalEs, evalB, evalAs, evalT, evalTs, evalO, evalI, evalC, bind_ok', bind_bad', bind_exc', bind_ite, out_ok', out_bad', out_exc', out_ite, seq_next, seq_ret, seq_brk, seq_cnt, seq_exc, seq_bad, seq_ite, fin_next, fin_ret, fin_bad, fin_exc, fin_ite, nextO, op1, op2, ↓op2b_def, opN, giveT, getAll, Tm.get, Tm.esc, slot, Sl.get, share, take, takeAll, mkT, truOf, truD, cmpB, cmpD, ordD, binD, negD, notD, idxD, slcD, revD, biD, isiD, isD, isNone, ↓lcT_def, onTg, clr, rst, Res.noExc, List.map_cons, List.map_nil, List.all_cons, List.all_nil, plainAt, Sl.plain, Bool.and_true, Bool.and_self, tgIx, tgsIx, itemsOf, asgS, asgTg, asgTgs, Sl.opt, iosOf, endRet, doCall, doCallN, doCallB, isScal, lsetD, arGet, arIos, putIos, putIo, chgI, chgE, setAt, appAt, extAt, ownL, newL, newT, exAt, setX, noEx, Sl.notEx, evalHs, popE, popIx, augD, parS, eqD_int, eqD_str, at0, at1, at2, at3, at4, at5, w_group_group, w_group_single, w_group_part, w_group_go, w_single_group, w_single_single, w_single_part, w_single_go, w_part_group, w_part_single, w_part_part, w_part_go, w_go_group, w_go_single, w_go_part, w_go_go, sm0, sm1, sm2, sm3, sm4, sm5, sm6, sm7, sm8, sm9, sm10, sm11, sm12, sm13, sm14, sm15, sm16, sm17, sm18, sm19, sm20, sm21, sm22, sm23, sm24, sm25, sm26, sm27, sm28, sm29, sm30, sm31, sm32, sm33, sm34, sm35, sm36, sm37, sm38, sm39, sm40, List.getElem?_cons_zero, List.getElem?_cons_succ, List.set_cons_zero, List.set_cons_succ, List.nodup_nil, if_true, if_false, Bool.not_true, Bool.not_false, ↓reduceIte, Bool.false_eq_true, decide_eq_true_eq, List.nodup_cons, List.not_mem_nil, not_false_eq_true, and_self, true_and, and_true, Option.bind_some, Option.isSome_some, Option.getD_some, reduceCtorEq, decide_true, decide_false, Int.reduceLE, Int.reduceLT, Int.reduceEq, Int.reduceNe, Int.reduceAdd, Int.reduceSub, Int.reduceNeg, Nat.reduceAdd, Nat.reduceLeDiff, Int.cast_ofNat_Int, eq_self, List.length_cons, List.length_nil, Nat.zero_add, $ls,*])
local macro_rules | `(tactic| simp_arith) => `(tactic| simp (config := { decide := false }) only [run_fin, Def.start, parSl, Option.map_some, List.replicate, List.cons_append, List.nil_append, List.append_nil, evalSs, evalS, evalE, ↓turn_def, ↓wturn_def, cl_next, cl_cnt, cl_brk, cl_ret, cl_exc, cl_bad, cl_ite, ↓lcC_def, evalEs, evalB, evalAs, evalT, evalTs, evalO, evalI, evalC, bind_ok', bind_bad', bind_exc', bind_ite, out_ok', out_bad', out_exc', out_ite, seq_next, seq_ret, seq_brk, seq_cnt, seq_exc, seq_bad, seq_ite, fin_next, fin_ret, fin_bad, fin_exc, fin_ite, nextO, op1, op2, ↓op2b_def, opN, giveT, getAll, Tm.get, Tm.esc, slot, Sl.get, share, take, takeAll, mkT, truOf, truD, cmpB, cmpD, ordD, binD, negD, notD, idxD, slcD, revD, biD, isiD, isD, isNone, ↓lcT_def, onTg, clr, rst, Res.noExc, List.map_cons, List.map_nil, List.all_cons, List.all_nil, plainAt, Sl.plain, Bool.and_true, Bool.and_self, tgIx, tgsIx, itemsOf, asgS, asgTg, asgTgs, Sl.opt, iosOf, endRet, doCall, doCallN, doCallB, isScal, lsetD, arGet, arIos, putIos, putIo, chgI, chgE, setAt, appAt, extAt, ownL, newL, newT, exAt, setX, noEx, Sl.notEx, evalHs, popE, popIx, augD, parS, eqD_int, eqD_str, at0, at1, at2, at3, at4, at5, w_group_group, w_group_single, w_group_part, w_group_go, w_single_group, w_single_single, w_single_part, w_single_go, w_part_group, w_part_single, w_part_part, w_part_go, w_go_group, w_go_single, w_go_part, w_go_go, sm0, sm1, sm2, sm3, sm4, sm5, sm6, sm7, sm8, sm9, sm10, sm11, sm12, sm13, sm14, sm15, sm16, sm17, sm18, sm19, sm20, sm21, sm22, sm23, sm24, sm25, sm26, sm27, sm28, sm29, sm30, sm31, sm32, sm33, sm34, sm35, sm36, sm37, sm38, sm39, sm40, List.getElem?_cons_zero, List.getElem?_cons_succ, List.set_cons_zero, List.set_cons_succ, List.nodup_nil, if_true, if_false, Bool.not_true, Bool.not_false, ↓reduceIte, Bool.false_eq_true, decide_eq_true_eq, List.nodup_cons, List.not_mem_nil, not_false_eq_true, and_self, true_and, and_true, Option.bind_some, Option.isSome_some, Option.getD_some, reduceCtorEq, decide_true, decide_false, Int.reduceLE, Int.reduceLT, Int.reduceEq, Int.reduceNe, Int.reduceAdd, Int.reduceSub, Int.reduceNeg, Nat.reduceAdd, Nat.reduceLeDiff, Int.cast_ofNat_Int, eq_self, List.length_cons, List.length_nil, Nat.zero_add])
structure St where
  turn : Int
  line : List Int
  singles : Int
  mood : Int
  deriving DecidableEq
def St.d (t : St) : D := .tuple [.int t.turn, .tuple (intL t.line), .int t.singles, .int t.mood]
structure St.ok (s : Su) (t : St) : Prop where
  tt : 0 ≤ t.turn ∧ t.turn < s.seats.length
  ll : (t.line.length : Int) ≤ s.r1
  zz : ∀ n ∈ t.line, 1 ≤ n ∧ n ≤ 5
  ss : 0 ≤ t.singles ∧ t.singles ≤ s.r2
  mm : 0 ≤ t.mood ∧ t.mood ≤ 2
structure Ch where
  deeds : List Dn
  empty : Int
  lost : Int
  a1 : Int
  a2 : Int
  deriving DecidableEq
def dnsD (ds : List Dn) : D := .tuple (ds.map dnD)
def Ch.d (c : Ch) : D := .tuple [dnsD c.deeds, .int c.empty, .int c.lost, .tuple [.int c.a1, .int c.a2]]
def hereM (s : Su) (line gs : List Int) : List Int := (line ++ gs).take s.r1.toNat
def waitM (s : Su) (singles n : Int) : Int := if singles + n < s.r2 then singles + n else s.r2
theorem let_in_ok (s : Su) (h : s.ok) (line : List Int) (hl : (line.length : Int) ≤ s.r1) (singles : Int) (hs : singles ≤ s.r2) (c : Cm) (hc : c.gs.length ≤ 1000) : f_let_in [s.d, .tuple (intL line), .int singles, c.d] =
    .ok false (.tuple [.tuple (intL (hereM s line c.gs)), .int (waitM s singles c.n), .tuple [.int ((line.length : Int) + c.gs.length - (hereM s line c.gs).length), .int (singles + c.n - waitM s singles c.n)]]) [] := by
  have hr := h.r1
  have h0 : (0 : Int) ≤ s.r1 := by omega
  have hz2 : Sm (line.length + c.gs.length) := sm
  have e1 : ¬ s.r1 < (line.length : Int) := by omega
  have e2 : ¬ s.r2 < singles := by omega
  unfold f_let_in c_let_in Su.d Cm.d
  simp_arith [intL_app, intL_len, hz2, gt_iff_lt, e1, e2, cut_to _ _ h0, intL_take]
  rfl
def lostM (line : List Int) (singles left : Int) : Int := if line = [] ∧ ¬ 0 < singles then 0 else left
def seatsM (s : Su) (turn : Int) : Int := s.seats[turn.toNat]?.getD 0
def flM (s : Su) (rs : List Rr) (t : St) (c : Cm) : Fl := fillM rs (hereM s t.line c.gs) (waitM s t.singles c.n) (seatsM s t.turn) t.mood
def beatM (s : Su) (rs : List Rr) (t : St) (c : Cm) : Ch × St :=
  (⟨(flM s rs t c).deeds, (flM s rs t c).left, lostM (flM s rs t c).line (flM s rs t c).singles (flM s rs t c).left, (t.line.length : Int) + c.gs.length - (hereM s t.line c.gs).length, t.singles + c.n - waitM s t.singles c.n⟩,
   ⟨(t.turn + 1) % s.seats.length, (flM s rs t c).line, (flM s rs t c).singles, (flM s rs t c).mood⟩)
theorem seats_rg (s : Su) (h : s.ok) (t : Int) (h0 : 0 ≤ t) (h1 : t < s.seats.length) : 1 ≤ seatsM s t ∧ seatsM s t ≤ 5 := by
  unfold seatsM
  rw [List.getElem?_eq_getElem (by omega : t.toNat < s.seats.length)]
  exact h.s3 _ (List.getElem_mem _)
theorem here_len (s : Su) (line gs : List Int) (h : s.ok) : ((hereM s line gs).length : Int) ≤ s.r1 := by
  have := h.r1
  unfold hereM
  rw [List.length_take]
  omega
theorem beat_ok (s : Su) (h : s.ok) (rs : List Rr) (t : St) (ht : t.ok s) (c : Cm) (hc : c.gs.length ≤ 1000) : f_beat [s.d, ruD rs, t.d, c.d] = .ok false (.tuple [(beatM s rs t c).1.d, (beatM s rs t c).2.d]) [] := by
  have li := let_in_ok s h t.line ht.ll t.singles ht.ss.2 c hc
  have hpos : (0 : Int) < (s.seats.length : Int) := by have := h.s1; omega
  have hsr := seats_rg s h t.turn ht.tt.1 ht.tt.2
  have hf := fill_ok rs (hereM s t.line c.gs) (waitM s t.singles c.n) (seatsM s t.turn) t.mood (by have := here_len s t.line c.gs h; have := h.r1; omega) (by omega)
  have hat : atI (intL s.seats) t.turn = some (.int (seatsM s t.turn)) := at_intL s.seats t.turn ht.tt.1 ht.tt.2
  unfold f_beat c_beat beatM St.d Ch.d dnsD lostM
  change f_fill _ = .ok false (.tuple [.tuple ((flM s rs t c).deeds.map dnD), .int (flM s rs t c).left, .tuple (intL (flM s rs t c).line), .int (flM s rs t c).singles, .int (flM s rs t c).mood]) [] at hf
  generalize flM s rs t c = q at *
  unfold Su.d at *
  simp_arith [li, hat, hf, eqD_nil, intL_len, hpos]
  by_cases h1 : q.line = []
  · by_cases h2 : 0 < q.singles
    · simp [h1, h2, endRet, iosOf, fin]
    · simp [h1, h2, endRet, iosOf, fin]
  · simp [h1, endRet, iosOf, fin]
theorem wait_rg (s : Su) (h : s.ok) (singles n : Int) (h0 : 0 ≤ singles) (h1 : singles ≤ s.r2) (hn : 0 ≤ n) : 0 ≤ waitM s singles n ∧ waitM s singles n ≤ s.r2 := by
  have := h.r2
  unfold waitM
  split <;> omega
theorem mem_here {s : Su} {line gs : List Int} {n : Int} (h : n ∈ hereM s line gs) : n ∈ line ∨ n ∈ gs := List.mem_append.mp (List.mem_of_mem_take h)
/-- what a chair leaves: what the filling keeps -/
theorem fill_keeps (s : Su) (rs : List Rr) (hr : ∀ r ∈ rs, r.ok) (line : List Int) (singles left mood : Int) (h1 : (line.length : Int) ≤ s.r1) (h2 : ∀ n ∈ line, 1 ≤ n ∧ n ≤ 5) (h3 : 0 ≤ singles ∧ singles ≤ s.r2) (h4 : 0 ≤ left ∧ left ≤ 5) (h5 : 0 ≤ mood ∧ mood ≤ 2) :
    ((fillM rs line singles left mood).line.length : Int) ≤ s.r1 ∧ (∀ n ∈ (fillM rs line singles left mood).line, 1 ≤ n ∧ n ≤ 5) ∧ (0 ≤ (fillM rs line singles left mood).singles ∧ (fillM rs line singles left mood).singles ≤ s.r2) ∧
      (0 ≤ (fillM rs line singles left mood).left ∧ (fillM rs line singles left mood).left ≤ 5) ∧ (0 ≤ (fillM rs line singles left mood).mood ∧ (fillM rs line singles left mood).mood ≤ 2) := by
  refine fillM_ind rs (fun line singles left mood => (line.length : Int) ≤ s.r1 ∧ (∀ n ∈ line, 1 ≤ n ∧ n ≤ 5) ∧ (0 ≤ singles ∧ singles ≤ s.r2) ∧ (0 ≤ left ∧ left ≤ 5) ∧ (0 ≤ mood ∧ mood ≤ 2)) ?_ ?_ left.toNat line singles left mood (Nat.le_refl _) ⟨h1, h2, h3, h4, h5⟩
  · rintro line singles left mood r ⟨h1, h2, h3, h4, h5⟩ hm hf hd
    simp only [fitsM, Bool.and_eq_true] at hf
    have hc := hf.2
    have hl := seat_len hc hd
    have hlt := seat_left hc hd
    refine ⟨by omega, ?_, ?_, by omega, (hr r hm).a⟩
    · cases hdd : r.deed with
      | group => intro n hn; exact h2 n (List.mem_of_mem_tail (by simpa [seatM] using hn))
      | single => intro n hn; exact h2 n (by simpa [seatM] using hn)
      | part =>
        rw [hdd] at hc
        obtain ⟨x, xs, rfl, k1, k2⟩ := canM_line hc (.inr rfl)
        have hx := h2 x List.mem_cons_self
        intro n hn
        simp [canM] at hc
        simp only [seatM, List.headD_cons, List.tail_cons, List.mem_cons] at hn
        rcases hn with rfl | hn
        · omega
        · exact h2 n (List.mem_cons_of_mem _ hn)
      | go => exact absurd hdd hd
    · cases hdd : r.deed with
      | group => simpa [seatM] using h3
      | single => rw [hdd] at hc; simp [canM] at hc; simp only [seatM]; omega
      | part => simpa [seatM] using h3
      | go => exact absurd hdd hd
  · rintro line singles left mood r ⟨h1, h2, h3, h4, h5⟩ hm
    exact ⟨h1, h2, h3, h4, (hr r hm).a⟩
theorem size_rg (s : Su) (h : s.ok) {c : Cm} (hc : c.ok s) : ∀ n ∈ c.gs, 1 ≤ n ∧ n ≤ 5 := fun n hn => h.z3 n (hc.g2 n hn)
theorem fl_keeps (s : Su) (h : s.ok) (rs : List Rr) (hr : ∀ r ∈ rs, r.ok) (t : St) (ht : t.ok s) (c : Cm) (hc : c.ok s) :
    ((flM s rs t c).line.length : Int) ≤ s.r1 ∧ (∀ n ∈ (flM s rs t c).line, 1 ≤ n ∧ n ≤ 5) ∧ (0 ≤ (flM s rs t c).singles ∧ (flM s rs t c).singles ≤ s.r2) ∧ (0 ≤ (flM s rs t c).left ∧ (flM s rs t c).left ≤ 5) ∧ (0 ≤ (flM s rs t c).mood ∧ (flM s rs t c).mood ≤ 2) := by
  have hsr := seats_rg s h t.turn ht.tt.1 ht.tt.2
  refine fill_keeps s rs hr _ _ _ _ (here_len s _ _ h) (fun n hn => ?_) (wait_rg s h _ _ ht.ss.1 ht.ss.2 hc.n1.1) (by omega) ht.mm
  rcases mem_here hn with q | q
  · exact ht.zz n q
  · exact size_rg s h hc n q
theorem beat_keeps (s : Su) (h : s.ok) (rs : List Rr) (hr : ∀ r ∈ rs, r.ok) (t : St) (ht : t.ok s) (c : Cm) (hc : c.ok s) : (beatM s rs t c).2.ok s := by
  obtain ⟨k1, k2, k3, k4, k5⟩ := fl_keeps s h rs hr t ht c hc
  have hpos : (0 : Int) < (s.seats.length : Int) := by have := h.s1; omega
  exact ⟨⟨Int.emod_nonneg _ (by omega), Int.emod_lt_of_pos _ hpos⟩, k1, k2, k3, k5⟩
/-- a row's chairs and the state behind it -/
def chsM (s : Su) (rs : List Rr) : St → List Cm → List Ch
  | _, [] => []
  | t, c :: cs => (beatM s rs t c).1 :: chsM s rs (beatM s rs t c).2 cs
def endM (s : Su) (rs : List Rr) : St → List Cm → St
  | t, [] => t
  | t, c :: cs => endM s rs (beatM s rs t c).2 cs
theorem chsM_len (s : Su) (rs : List Rr) : ∀ (t : St) (cs : List Cm), (chsM s rs t cs).length = cs.length
  | _, [] => rfl
  | t, c :: cs => congrArg (· + 1) (chsM_len s rs (beatM s rs t c).2 cs)
theorem endM_ok (s : Su) (h : s.ok) (rs : List Rr) (hr : ∀ r ∈ rs, r.ok) : ∀ (cs : List Cm) (t : St), t.ok s → (∀ c ∈ cs, c.ok s) → (endM s rs t cs).ok s
  | [], _, ht, _ => ht
  | c :: cs, t, ht, hc => endM_ok s h rs hr cs _ (beat_keeps s h rs hr t ht c (hc c List.mem_cons_self)) fun x hx => hc x (List.mem_cons_of_mem _ hx)
theorem chsM_app (s : Su) (rs : List Rr) : ∀ (as bs : List Cm) (t : St), chsM s rs t (as ++ bs) = chsM s rs t as ++ chsM s rs (endM s rs t as) bs
  | [], _, _ => rfl
  | a :: as, bs, t => by
    show _ :: chsM s rs _ (as ++ bs) = _ :: (_ ++ _)
    rw [chsM_app s rs as bs]
    rfl
theorem endM_app (s : Su) (rs : List Rr) : ∀ (as bs : List Cm) (t : St), endM s rs t (as ++ bs) = endM s rs (endM s rs t as) bs
  | [], _, _ => rfl
  | a :: as, bs, t => endM_app s rs as bs _
theorem cm_len (s : Su) (h : s.ok) {c : Cm} (hc : c.ok s) : c.gs.length ≤ 2 := by have := hc.g1; have := h.c1; omega
theorem run_ok (s : Su) (h : s.ok) (rs : List Rr) (hr : ∀ r ∈ rs, r.ok) (t : St) (ht : t.ok s) (cs : List Cm) (hc : ∀ c ∈ cs, c.ok s) (hl : cs.length ≤ 16777216) : f_run [s.d, ruD rs, t.d, rowD cs] = .ok false (.tuple [.list ((chsM s rs t cs).map Ch.d), (endM s rs t cs).d]) [] := by
  have key := forL_P (body := evalSs fuel x_run_0) (tg := .nm 5) (fg := [5, 6]) (fun a : List Ch × St => [.sh s.d, .sh (ruD rs), .sh a.2.d, .sh (rowD cs), .ow (.list (a.1.map Ch.d)), .un, .un]) Cm.d
    (fun a rest => a.2.ok s ∧ (∀ c ∈ rest, c.ok s) ∧ a.1 ++ chsM s rs a.2 rest = chsM s rs t cs ∧ endM s rs a.2 rest = endM s rs t cs)
    (fun o => o = .next [.sh s.d, .sh (ruD rs), .sh (endM s rs t cs).d, .sh (rowD cs), .ow (.list ((chsM s rs t cs).map Ch.d)), .un, .un])
    (fun a c rest ⟨h1, h2, h3, h4⟩ => by
      have hco := h2 c List.mem_cons_self
      have hb := beat_ok s h rs a.2 h1 c (by have := cm_len s h hco; omega)
      have hlen : Sm (a.1.length + 1) := by
        unfold Sm
        have := congrArg List.length h3
        rw [List.length_append, chsM_len, chsM_len, List.length_cons] at this
        omega
      refine .inl ⟨(a.1 ++ [(beatM s rs a.2 c).1], (beatM s rs a.2 c).2), ?_, beat_keeps s h rs hr _ h1 c hco, fun x hx => h2 x (List.mem_cons_of_mem _ hx), ?_, h4⟩
      · unfold x_run_0
        simp_arith [hb, List.length_map, hlen, List.map_append]
      · rw [← h3]; simp [chsM])
    (fun a ⟨h1, h2, h3, h4⟩ => by
      rw [← h4, ← h3]
      simp [chsM, endM]) cs ([], t) [.sh s.d, .sh (ruD rs), .sh t.d, .sh (rowD cs), .ow (.list []), .un, .un] (by simp_arith) ⟨ht, hc, rfl, rfl⟩
  unfold f_run c_run x_run_1
  unfold rowD at *
  simp_arith [key]
def st0 : St := ⟨0, [], 0, 0⟩
theorem st0_ok (s : Su) (h : s.ok) : st0.ok s := ⟨⟨by decide, by have := h.s1; show (0 : Int) < _; omega⟩, by have := h.r1; show (0 : Int) ≤ _; omega, fun n hn => absurd hn List.not_mem_nil, ⟨by decide, h.r2.1⟩, ⟨by decide, by decide⟩⟩
theorem first_state_ok : f_first_state [] = .ok false st0.d [] := by
  unfold f_first_state c_first_state
  simp_arith
  rfl
section
variable (s : Su) (h : s.ok) (rs : List Rr) (hr : RuOk rs) (cs : List Cm) (hc : ∀ c ∈ cs, c.ok s) (hl : cs.length ≤ 300)
include h hr hc hl
theorem chairs_of_ok : f_chairs_of [s.d, ruD rs, rowD cs] = .ok false (.list ((chsM s rs st0 cs).map Ch.d)) [] := by
  unfold f_chairs_of c_chairs_of
  simp_arith [check_both_ok s h rs hr, check_row_ok s h cs hc 300 (by decide) (by omega), first_state_ok, run_ok s h rs hr.2 st0 (st0_ok s h) cs hc (by omega)]
theorem state_after_ok : f_state_after [s.d, ruD rs, rowD cs] = .ok false (endM s rs st0 cs).d [] := by
  unfold f_state_after c_state_after
  simp_arith [check_both_ok s h rs hr, check_row_ok s h cs hc 300 (by decide) (by omega), first_state_ok, run_ok s h rs hr.2 st0 (st0_ok s h) cs hc (by omega)]
theorem lost_by_ok : f_lost_by [s.d, ruD rs, rowD cs] = .ok false (.int ((chsM s rs st0 cs).map Ch.lost).sum) [] := by
  have x : evalE x_lost_by_0 [.sh s.d, .sh (ruD rs), .sh (rowD cs), .un] = .ok (.ow (.list ((chsM s rs st0 cs).map fun c => .int c.lost))) [.sh s.d, .sh (ruD rs), .sh (rowD cs), .un] := by
    unfold x_lost_by_0
    refine lc_map' Ch.d (chsM s rs st0 cs) _ (by simp_arith [chairs_of_ok s h rs hr cs hc hl]) (by simp_arith) (by rw [chsM_len]; omega) fun c _ => ?_
    simp_arith [Ch.d]
  unfold f_lost_by c_lost_by
  simp_arith [x, intsOf_map]
def partsM (cs : List Ch) : List Dn := cs.flatMap fun c => c.deeds.filter fun d => d.1 = .part
end
end
end Pg

end

-- MDk
section
/-! MDk: the decks from which the laws draw. -/
namespace Pg
open PySem L2 Ev
noncomputable section
local macro_rules | `(tactic| simp_arith [$ls,*]) => `(tactic| simp (config := { decide := false }) only [run_fin, Def.start, parSl, Option.map_some, List.replicate, List.cons_append, List.nil_append, List.append_nil, evalSs, evalS, evalE, ↓turn_def, ↓wturn_def, cl_next, cl_cnt, cl_brk, cl_ret, cl_exc, cl_bad, cl_ite, ↓lcC_def, evalEs, evalB, evalAs, evalT, evalTs, evalO, evalI, evalC, bind_ok', bind_bad', bind_exc', bind_ite, out_ok', out_bad', out_exc', out_ite, seq_next, seq_ret, seq_brk, seq_cnt, seq_exc, seq_bad, seq_ite, fin_next, fin_ret, fin_bad, fin_exc, fin_ite, nextO, op1, op2, ↓op2b_def, opN, giveT, getAll, Tm.get, Tm.esc, slot, Sl.get, share, take, takeAll, mkT, truOf, truD, cmpB, cmpD, ordD, binD, negD, notD, idxD, slcD, revD, biD, isiD, isD, isNone, ↓lcT_def, onTg, clr, rst, Res.noExc, List.map_cons, List.map_nil, List.all_cons, List.all_nil, plainAt, Sl.plain, Bool.and_true, Bool.and_self, tgIx, tgsIx, itemsOf, asgS, asgTg, asgTgs, Sl.opt, iosOf, endRet, doCall, doCallN, doCallB, isScal, lsetD, arGet, arIos, putIos, putIo, chgI, chgE, setAt, appAt, extAt, ownL, newL, newT, exAt, setX, noEx, Sl.notEx, evalHs, popE, popIx, augD, parS, eqD_int, eqD_str, at0, at1, at2, at3, at4, at5, w_group_group, w_group_single, w_group_part, w_group_go, w_single_group, w_single_single, w_single_part, w_single_go, w_part_group, w_part_single, w_part_part, w_part_go, w_go_group, w_go_single, w_go_part, w_go_go, sm0, sm1, sm2, sm3, sm4, sm5, sm6, sm7, sm8, sm9, sm10, sm11, sm12, sm13, sm14, sm15, sm16, sm17, sm18, sm19, sm20, sm21, sm22, sm23, sm24, sm25, sm26, sm27, sm28, sm29, sm30, sm31, sm32, sm33, sm34, sm35, sm36, sm37, sm38, sm39, sm40, List.getElem?_cons_zero, List.getElem?_cons_succ, List.set_cons_zero, List.set_cons_succ, List.nodup_nil, if_true, if_false, Bool.not_true, Bool.not_false, ↓reduceIte, Bool.false_eq_true, decide_eq_true_eq, List.nodup_cons, List.not_mem_nil, not_false_eq_true, and_self, true_and, and_true, Option.bind_some, Option.isSome_some, Option.getD_some, reduceCtorEq, decide_true, decide_false, Int.reduceLE, Int.reduceLT, Int.reduceEq, Int.reduceNe, Int.reduceAdd, Int.reduceSub, Int.reduceNeg, Nat.reduceAdd, Nat.reduceLeDiff, Int.cast_ofNat_Int, eq_self, List.length_cons, List.length_nil, Nat.zero_add, $ls,*])
local macro_rules | `(tactic| simp_arith) => `(tactic| simp (config := { decide := false }) only [run_fin, Def.start, parSl, Option.map_some, List.replicate, List.cons_append, List.nil_append, List.append_nil, evalSs, evalS, evalE, ↓turn_def, ↓wturn_def, cl_next, cl_cnt, cl_brk, cl_ret, cl_exc, cl_bad, cl_ite, ↓lcC_def, evalEs, evalB, evalAs, evalT, evalTs, evalO, evalI, evalC, bind_ok', bind_bad', bind_exc', bind_ite, out_ok', out_bad', out_exc', out_ite, seq_next, seq_ret, seq_brk, seq_cnt, seq_exc, seq_bad, seq_ite, fin_next, fin_ret, fin_bad, fin_exc, fin_ite, nextO, op1, op2, ↓op2b_def, opN, giveT, getAll, Tm.get, Tm.esc, slot, Sl.get, share, take, takeAll, mkT, truOf, truD, cmpB, cmpD, ordD, binD, negD, notD, idxD, slcD, revD, biD, isiD, isD, isNone, ↓lcT_def, onTg, clr, rst, Res.noExc, List.map_cons, List.map_nil, List.all_cons, List.all_nil, plainAt, Sl.plain, Bool.and_true, Bool.and_self, tgIx, tgsIx, itemsOf, asgS, asgTg, asgTgs, Sl.opt, iosOf, endRet, doCall, doCallN, doCallB, isScal, lsetD, arGet, arIos, putIos, putIo, chgI, chgE, setAt, appAt, extAt, ownL, newL, newT, exAt, setX, noEx, Sl.notEx, evalHs, popE, popIx, augD, parS, eqD_int, eqD_str, at0, at1, at2, at3, at4, at5, w_group_group, w_group_single, w_group_part, w_group_go, w_single_group, w_single_single, w_single_part, w_single_go, w_part_group, w_part_single, w_part_part, w_part_go, w_go_group, w_go_single, w_go_part, w_go_go, sm0, sm1, sm2, sm3, sm4, sm5, sm6, sm7, sm8, sm9, sm10, sm11, sm12, sm13, sm14, sm15, sm16, sm17, sm18, sm19, sm20, sm21, sm22, sm23, sm24, sm25, sm26, sm27, sm28, sm29, sm30, sm31, sm32, sm33, sm34, sm35, sm36, sm37, sm38, sm39, sm40, List.getElem?_cons_zero, List.getElem?_cons_succ, List.set_cons_zero, List.set_cons_succ, List.nodup_nil, if_true, if_false, Bool.not_true, Bool.not_false, ↓reduceIte, Bool.false_eq_true, decide_eq_true_eq, List.nodup_cons, List.not_mem_nil, not_false_eq_true, and_self, true_and, and_true, Option.bind_some, Option.isSome_some, Option.getD_some, reduceCtorEq, decide_true, decide_false, Int.reduceLE, Int.reduceLT, Int.reduceEq, Int.reduceNe, Int.reduceAdd, Int.reduceSub, Int.reduceNeg, Nat.reduceAdd, Nat.reduceLeDiff, Int.cast_ofNat_Int, eq_self, List.length_cons, List.length_nil, Nat.zero_add])
structure Dk where
  a : Int
  b : Int
def Dk.d (k : Dk) : D := .list [.int k.a, .int k.b]
structure Dk.ok (k : Dk) : Prop where
  a : 0 ≤ k.a
  b : 0 ≤ k.b ∧ k.b < 2147483648
theorem take_ok (k : Dk) (h : k.ok) (m : Int) (h0 : 0 < m) (hm : m < 1048576) : ∃ v, ∃ k' : Dk, f__law_take [k.d, .int m] = .ok false (.int v) [k'.d] ∧ 0 ≤ v ∧ v < m ∧ k'.ok := by
  obtain ⟨a, b⟩ := k
  obtain ⟨ha, hb, hb2⟩ := h
  simp only at ha hb hb2
  by_cases hp : 0 < a
  · refine ⟨a % m, ⟨a / m, b⟩, ?_, Int.emod_nonneg _ (by omega), Int.emod_lt_of_pos _ h0, ⟨Int.ediv_nonneg ha (by omega), hb, hb2⟩⟩
    unfold f__law_take c__law_take
    simp_arith [Dk.d, hp, h0, log_small h0 hm, ix0]
  · have h1 : MulOk b 48271 := mulOk_l (by omega) (by omega)
    have e1 : 0 ≤ b * 48271 % 2147483647 := Int.emod_nonneg _ (by decide)
    have e2 : b * 48271 % 2147483647 < 2147483647 := Int.emod_lt_of_pos _ (by decide)
    generalize hb' : b * 48271 % 2147483647 = b' at e1 e2
    have h2 : MulOk b' b' := mulOk_l (by omega) (by omega)
    have e3 : 0 ≤ b' * b' % 2147483629 := Int.emod_nonneg _ (by decide)
    have e4 : b' * b' % 2147483629 < 2147483629 := Int.emod_lt_of_pos _ (by decide)
    generalize hs : b' * b' % 2147483629 = st at e3 e4
    have h3 : MulOk st 40692 := mulOk_l (by omega) (by omega)
    refine ⟨st * 40692 % 2147483399 / 8 % m, ⟨a, b'⟩, ?_, Int.emod_nonneg _ (by omega), Int.emod_lt_of_pos _ h0, ⟨ha, e1, by show b' < _; omega⟩⟩
    unfold f__law_take c__law_take
    simp_arith [Dk.d, hp, h0, ix1, h1, h2, h3, hb', hs, log_small (show (0 : Int) < 8 by decide) (by decide)]
theorem p64 : PowOk 10 18 := ⟨by decide, by decide, by decide⟩
theorem log0 : (0 : Int) < 2147483629 := by decide
theorem pow18 : ((10 : Int) ^ (18 : Int).toNat) = 1000000000000000000 := by decide
theorem deck_ok (ns : List Int) (k : Int) (h0 : 0 ≤ k) (hk : k < 1000000) : ∃ d : Dk, f__law_deck [.list (intL ns), .int k] = .ok true d.d [] ∧ d.ok := by
  have key : ∀ cell : Int, Dk.ok ⟨if cell - 1000000000000000000 > 0 then cell - 1000000000000000000 else 0, (cell + 7919 * k) % 2147483629 + 1⟩ := fun cell => by
    have e1 : 0 ≤ (cell + 7919 * k) % 2147483629 := Int.emod_nonneg _ (by decide)
    have e2 : (cell + 7919 * k) % 2147483629 < 2147483629 := Int.emod_lt_of_pos _ (by decide)
    refine ⟨?_, by show 0 ≤ _ + 1; omega, by show _ + 1 < _; omega⟩
    show (0 : Int) ≤ if cell - 1000000000000000000 > 0 then cell - 1000000000000000000 else 0
    split <;> omega
  have hm : MulOk 7919 k := mulOk_l (by decide) (by decide)
  by_cases hk : k < ns.length
  · refine ⟨_, ?_, key (if (ns[k.toNat]?.getD 0) < 0 then -(ns[k.toNat]?.getD 0) else ns[k.toNat]?.getD 0)⟩
    unfold f__law_deck c__law_deck
    simp_arith [Dk.d, intL_len, hk, at_intL ns k h0 hk, hm, pow18, p64, log0]
  · refine ⟨_, ?_, key 0⟩
    unfold f__law_deck c__law_deck
    simp_arith [Dk.d, intL_len, hk, hm, pow18, p64, log0]
/-- a comprehension that draws a number in each turn -/
theorem rng_items (n : Nat) : rngD 0 n = (rngL 0 n).map .int := rng_map 0 n
theorem x_any_setup_ok (k : Dk) (h : k.ok) (x y z : Sl) : ∃ ns, ∃ k' : Dk, evalE x__law_any_setup_0 [.io 0 k.d, x, y, z, .un] = .ok (.ow (.list (intL ns))) [.io 0 k'.d, x, y, z, .un] ∧
    1 ≤ ns.length ∧ ns.length ≤ 2 ∧ (∀ n ∈ ns, 1 ≤ n ∧ n ≤ 5) ∧ k'.ok := by
  obtain ⟨v, k1, e1, v0, v1, h1⟩ := take_ok k h 2 (by decide) (by decide)
  have hr : RngOk (1 + v) := rngOk_small (by omega) (by omega)
  unfold x__law_any_setup_0
  refine lc_R (fun q : Dk => [.io 0 q.d, x, y, z, .un]) .int (rngL 0 (1 + v).toNat) (fun q rest acc => q.ok ∧ ∃ ns, acc = intL ns ∧ ns.length + rest.length = (1 + v).toNat ∧ (∀ n ∈ ns, 1 ≤ n ∧ n ≤ 5))
    (fun r => ∃ ns, ∃ k' : Dk, r = .ok (.ow (.list (intL ns))) [.io 0 k'.d, x, y, z, .un] ∧ 1 ≤ ns.length ∧ ns.length ≤ 2 ∧ (∀ n ∈ ns, 1 ≤ n ∧ n ≤ 5) ∧ k'.ok) (ρ1 := [.io 0 k1.d, x, y, z, .un]) (by simp_arith [e1, hr, rng_map]) (by simp_arith) k1 (by simp_arith) ⟨h1, [], rfl, by rw [rngL_len]; simp, by simp⟩ ?_ ?_
  · rintro q d rest acc ⟨hq, ns, rfl, hl, hn⟩
    obtain ⟨u, k2, e2, u0, u1, h2⟩ := take_ok q hq 5 (by decide) (by decide)
    rw [List.length_cons] at hl
    refine ⟨some (.int (1 + u)), k2, by simp_arith [e2], ⟨h2, ns ++ [1 + u], intL_snoc .., by rw [List.length_append, List.length_singleton]; omega, fun n hn' => ?_⟩, by rw [intL_len]; omega⟩
    rcases List.mem_append.mp hn' with q | q
    · exact hn n q
    · rw [List.mem_singleton.mp q]; omega
  · rintro q acc ⟨hq, ns, rfl, hl, hn⟩
    rw [List.length_nil] at hl
    exact ⟨ns, q, by simp_arith, by omega, by omega, hn, hq⟩
theorem ups_snoc : ∀ (ns : List Int) (m : Int), ups ns = true → (∀ n ∈ ns, n < m) → ups (ns ++ [m]) = true
  | [], _, _, _ => rfl
  | [a], m, _, h => by
    show (decide (a < m) && ups [m]) = true
    rw [decide_eq_true (h a (by simp))]
    rfl
  | a :: b :: r, m, h, hm => by
    have h' : (decide (a < b) && ups (b :: r)) = true := h
    rw [Bool.and_eq_true] at h'
    show (decide (a < b) && ups ((b :: r) ++ [m])) = true
    rw [h'.1, ups_snoc (b :: r) m h'.2 fun n hn => hm n (List.mem_cons_of_mem _ hn)]
    rfl
theorem ups_take : ∀ (ns : List Int) (k : Nat), ups ns = true → ups (ns.take k) = true
  | [], _, _ => by simp [ups]
  | [a], k, _ => by cases k <;> simp [ups]
  | a :: b :: r, 0, _ => by simp [ups]
  | a :: b :: r, 1, _ => by simp [ups]
  | a :: b :: r, k + 2, h => by
    have h' : (decide (a < b) && ups (b :: r)) = true := h
    rw [Bool.and_eq_true] at h'
    have ih := ups_take (b :: r) (k + 1) h'.2
    rw [List.take_succ_cons] at ih
    rw [List.take_succ_cons, List.take_succ_cons]
    show (decide (a < b) && ups (b :: r.take k)) = true
    rw [h'.1, ih]
    rfl
theorem rngL_cons {lo : Int} {n : Nat} {d : Int} {rest : List Int} (h : rngL lo n = d :: rest) : d = lo ∧ ∃ m, n = m + 1 ∧ rest = rngL (lo + 1) m := by
  cases n with
  | zero => cases h
  | succ m => rw [rngL_succ] at h; cases h; exact ⟨rfl, m, rfl, rfl⟩
theorem x_sizes_ok (k : Dk) (h : k.ok) (M : Int) (hM0 : 1 ≤ M) (hM : M ≤ 5) (m x : Sl) : ∃ ns, ∃ k' : Dk, evalE x__law_sizes_0 [.io 0 k.d, .sh (.int M), m, x, .un] = .ok (.ow (.list (intL ns))) [.io 0 k'.d, .sh (.int M), m, x, .un] ∧
    (ns.length : Int) ≤ M ∧ (∀ n ∈ ns, 1 ≤ n ∧ n ≤ M) ∧ ups ns = true ∧ k'.ok := by
  unfold x__law_sizes_0
  have r1 : RngOk 1 := rngOk_small
  have r2 : RngOk (M + 1) := rngOk_small (by omega) (by omega)
  have er : (M + 1 - 1).toNat = M.toNat := by omega
  refine lc_R (fun q : Dk => [.io 0 q.d, .sh (.int M), m, x, .un]) .int (rngL 1 M.toNat) (fun q rest acc => q.ok ∧ ∃ ns, ∃ (lo : Int) (j : Nat), rest = rngL lo j ∧ lo + j = M + 1 ∧ 1 ≤ lo ∧ acc = intL ns ∧ (ns.length : Int) < lo ∧ (∀ n ∈ ns, 1 ≤ n ∧ n < lo) ∧ ups ns = true)
    (fun r => ∃ ns, ∃ k' : Dk, r = .ok (.ow (.list (intL ns))) [.io 0 k'.d, .sh (.int M), m, x, .un] ∧ (ns.length : Int) ≤ M ∧ (∀ n ∈ ns, 1 ≤ n ∧ n ≤ M) ∧ ups ns = true ∧ k'.ok) (ρ1 := [.io 0 k.d, .sh (.int M), m, x, .un])
    (by simp_arith [r1, r2, rng_map, er]) (by simp_arith) k (by simp_arith) ⟨h, [], 1, M.toNat, rfl, by omega, by decide, rfl, by decide, by simp, rfl⟩ ?_ ?_
  · rintro q d rest acc ⟨hq, ns, lo, j, hr, hk, hlo, rfl, hl, hn, hu⟩
    obtain ⟨rfl, j', rfl, rfl⟩ := rngL_cons hr.symm
    obtain ⟨u, k2, e2, u0, u1, h2⟩ := take_ok q hq 2 (by decide) (by decide)
    by_cases hu1 : u = 1
    · refine ⟨some (.int d), k2, by simp_arith [e2, hu1], ⟨h2, ns ++ [d], d + 1, j', rfl, by omega, by omega, intL_snoc .., by rw [List.length_append, List.length_singleton]; omega, fun n hn' => ?_, ups_snoc ns d hu fun n hn' => (hn n hn').2⟩, by rw [intL_len]; omega⟩
      rcases List.mem_append.mp hn' with q | q
      · have := hn n q; omega
      · rw [List.mem_singleton.mp q]; omega
    · refine ⟨none, k2, by simp_arith [e2, hu1], ⟨h2, ns, d + 1, j', rfl, by omega, by omega, by simp, by omega, fun n hn' => ?_, hu⟩, by rw [intL_len]; omega⟩
      have := hn n hn'; omega
  · rintro q acc ⟨hq, ns, lo, j, hr, hk, hlo, rfl, hl, hn, hu⟩
    have hk0 : j = 0 := by
      have := congrArg List.length hr
      rw [rngL_len] at this
      simpa using this.symm
    exact ⟨ns, q, by simp_arith, by omega, fun n hn' => by have := hn n hn'; omega, hu, hq⟩
theorem sizes_ok (k : Dk) (h : k.ok) (M : Int) (h1 : 1 ≤ M) (hM : M ≤ 5) (many : Int) (hm : 1 ≤ many) : ∃ ns, ∃ k' : Dk, f__law_sizes [k.d, .int M, .int many] = .ok false (.tuple (intL ns)) [k'.d] ∧ 1 ≤ ns.length ∧ (ns.length : Int) ≤ many ∧ (∀ n ∈ ns, 1 ≤ n ∧ n ≤ M) ∧ ups ns = true ∧ k'.ok := by
  obtain ⟨ns, k1, e1, hl, hn, hu, g1⟩ := x_sizes_ok k h M h1 hM (.sh (.int many)) .un
  by_cases he : ns = []
  · obtain ⟨u, k2, e2, u0, u1, h2⟩ := take_ok k1 g1 M (by omega) (by omega)
    refine ⟨[1 + u], k2, ?_, by simp, by simpa using hm, fun n hn => by rw [List.mem_singleton.mp hn]; omega, rfl, h2⟩
    have hc := cut_to [PyData.int (1 + u)] many (by omega)
    rw [List.take_of_length_le (by simp; omega)] at hc
    unfold f__law_sizes c__law_sizes
    simp_arith [e1, eqD_lnil, he, e2, hc]
    rfl
  · refine ⟨ns.take many.toNat, k1, ?_, ?_, ?_, fun n hn' => hn n (List.mem_of_mem_take hn'), ups_take ns _ hu, g1⟩
    · unfold f__law_sizes c__law_sizes
      simp_arith [e1, eqD_lnil, he, cut_to _ many (by omega : 0 ≤ many)]
      rw [intL_take]
    · rw [List.length_take]
      have : ns.length ≠ 0 := fun z => he (List.eq_nil_of_length_eq_zero z)
      omega
    · rw [List.length_take]; omega
theorem any_setup_ok (k : Dk) (h : k.ok) : ∃ s, ∃ k' : Dk, f__law_any_setup [k.d] = .ok false s.d [k'.d] ∧ Su.ok s ∧ k'.ok := by
  obtain ⟨seats, k1, e1, l1, l2, l3, h1⟩ := x_any_setup_ok k h .un .un .un
  obtain ⟨sizes, k2, e2, z1, z2, z3, z4, h2⟩ := sizes_ok k1 h1 5 (by decide) (by decide) 3 (by decide)
  obtain ⟨r1, k3, e3, p1, q1, h3⟩ := take_ok k2 h2 3 (by decide) (by decide)
  obtain ⟨r2, k4, e4, p2, q2, h4⟩ := take_ok k3 h3 5 (by decide) (by decide)
  obtain ⟨c1, k5, e5, p3, q3, h5⟩ := take_ok k4 h4 3 (by decide) (by decide)
  obtain ⟨c2, k6, e6, p4, q4, h6⟩ := take_ok k5 h5 3 (by decide) (by decide)
  refine ⟨⟨seats, sizes, 1 + r1, r2, c1, c2⟩, k6, ?_, ⟨l1, l2, l3, z1, by simp only; omega, z3, z4, ?_, ?_, ?_, ?_⟩, h6⟩
  · unfold f__law_any_setup c__law_any_setup
    have e2' : f__law_sizes [k1.d, .int 5, .int 3] = .ok false (.tuple (intL sizes)) [k2.d] := e2
    simp_arith [Su.d, e1, e2', e3, e4, e5, e6]
  all_goals (constructor <;> show _ ≤ _ <;> simp only <;> omega)
theorem x_comers1_ok (s : Su) (h : s.ok) (k : Dk) (hd : k.ok) (x : Sl) : ∃ ns, ∃ k' : Dk, evalE x__law_comers__1_0 [.io 0 k.d, .sh s.d, x, .un] = .ok (.ow (.list (intL ns))) [.io 0 k'.d, .sh s.d, x, .un] ∧ (ns.length : Int) ≤ s.c1 ∧ (∀ n ∈ ns, n ∈ s.sizes) ∧ k'.ok := by
  have hc := h.c1
  obtain ⟨v, k1, e1, v0, v1, h1⟩ := take_ok k hd (s.c1 + 1) (by omega) (by omega)
  have hr : RngOk v := rngOk_small (by omega) (by omega)
  have hz := h.z1
  have hz2 := h.z2
  unfold x__law_comers__1_0
  refine lc_R (fun q : Dk => [.io 0 q.d, .sh s.d, x, .un]) .int (rngL 0 v.toNat) (fun q rest acc => q.ok ∧ ∃ ns, acc = intL ns ∧ ns.length + rest.length = v.toNat ∧ (∀ n ∈ ns, n ∈ s.sizes))
    (fun r => ∃ ns, ∃ k' : Dk, r = .ok (.ow (.list (intL ns))) [.io 0 k'.d, .sh s.d, x, .un] ∧ (ns.length : Int) ≤ s.c1 ∧ (∀ n ∈ ns, n ∈ s.sizes) ∧ k'.ok) (ρ1 := [.io 0 k1.d, .sh s.d, x, .un])
    (by unfold Su.d; simp_arith [e1, hr, rng_map]) (by simp_arith) k1 (by simp_arith) ⟨h1, [], rfl, by rw [rngL_len]; simp, by simp⟩ ?_ ?_
  · rintro q d rest acc ⟨hq, ns, rfl, hl, hn⟩
    obtain ⟨u, k2, e2, u0, u1, h2⟩ := take_ok q hq (s.sizes.length : Int) (by omega) (by omega)
    rw [List.length_cons] at hl
    have hat := at_intL s.sizes u u0 u1
    refine ⟨some (.int (s.sizes[u.toNat]?.getD 0)), k2, by unfold Su.d; simp_arith [e2, intL_len, hat], ⟨h2, ns ++ [s.sizes[u.toNat]?.getD 0], intL_snoc .., by rw [List.length_append, List.length_singleton]; omega, fun n hn' => ?_⟩, by rw [intL_len]; omega⟩
    rcases List.mem_append.mp hn' with q | q
    · exact hn n q
    · rw [List.mem_singleton.mp q, List.getElem?_eq_getElem (by omega : u.toNat < s.sizes.length)]; exact List.getElem_mem _
  · rintro q acc ⟨hq, ns, rfl, hl, hn⟩
    rw [List.length_nil] at hl
    exact ⟨ns, q, by simp_arith, by omega, hn, hq⟩
theorem comers1_ok (s : Su) (h : s.ok) (k : Dk) (hd : k.ok) : ∃ c, ∃ k' : Dk, f__law_comers__1 [k.d, s.d] = .ok false (Cm.d c) [k'.d] ∧ c.ok s ∧ k'.ok := by
  obtain ⟨ns, k1, e1, l1, l2, h1⟩ := x_comers1_ok s h k hd .un
  have hc := h.c2
  obtain ⟨v, k2, e2, v0, v1, h2⟩ := take_ok k1 h1 (s.c2 + 1) (by omega) (by omega)
  refine ⟨⟨ns, v⟩, k2, ?_, ⟨l1, l2, v0, by show v ≤ s.c2; omega⟩, h2⟩
  unfold f__law_comers__1 c__law_comers__1 Cm.d
  unfold Su.d at *
  simp_arith [e1, e2]
theorem row1_ok (s : Su) (h : s.ok) (k : Dk) (hd : k.ok) (n : Int) (h0 : 0 ≤ n) (hn : n ≤ 1000) : ∃ rs, ∃ k' : Dk, f__law_row__1 [k.d, s.d, .int n] = .ok true (rowD rs) [k'.d] ∧ rs.length = n.toNat ∧ (∀ c ∈ rs, c.ok s) ∧ k'.ok := by
  have hr : RngOk n := rngOk_small (by omega) (by omega)
  have key : ∃ rs, ∃ k' : Dk, evalE x__law_row__1_0 [.io 0 k.d, .sh s.d, .sh (.int n), .un] = .ok (.ow (rowD rs)) [.io 0 k'.d, .sh s.d, .sh (.int n), .un] ∧ rs.length = n.toNat ∧ (∀ c ∈ rs, c.ok s) ∧ k'.ok := by
    unfold x__law_row__1_0
    refine lc_R (fun q : Dk => [.io 0 q.d, .sh s.d, .sh (.int n), .un]) .int (rngL 0 n.toNat) (fun q rest acc => q.ok ∧ ∃ rs, acc = rs.map Cm.d ∧ rs.length + rest.length = n.toNat ∧ (∀ c ∈ rs, c.ok s))
      (fun r => ∃ rs, ∃ k' : Dk, r = .ok (.ow (rowD rs)) [.io 0 k'.d, .sh s.d, .sh (.int n), .un] ∧ rs.length = n.toNat ∧ (∀ c ∈ rs, c.ok s) ∧ k'.ok) (ρ1 := [.io 0 k.d, .sh s.d, .sh (.int n), .un])
      (by simp_arith [hr, rng_map]) (by simp_arith) k (by simp_arith) ⟨hd, [], rfl, by rw [rngL_len]; simp, by simp⟩ ?_ ?_
    · rintro q d rest acc ⟨hq, rs, rfl, hl, hn⟩
      obtain ⟨c, k2, e2, hc, h2⟩ := comers1_ok s h q hq
      rw [List.length_cons] at hl
      refine ⟨some c.d, k2, by simp_arith [e2], ⟨h2, rs ++ [c], by simp, by rw [List.length_append, List.length_singleton]; omega, fun z hz => ?_⟩, by rw [List.length_map]; omega⟩
      rcases List.mem_append.mp hz with q | q
      · exact hn z q
      · rw [List.mem_singleton.mp q]; exact hc
    · rintro q acc ⟨hq, rs, rfl, hl, hn⟩
      rw [List.length_nil] at hl
      exact ⟨rs, q, by simp_arith; rfl, by omega, hn, hq⟩
  obtain ⟨rs, k', e, h1, h2, h3⟩ := key
  refine ⟨rs, k', ?_, h1, h2, h3⟩
  unfold f__law_row__1 c__law_row__1
  simp_arith [e]
/-- a drawn range -/
theorem range_ok (k : Dk) (hd : k.ok) : ∃ p, ∃ k' : Dk, f__law_range [k.d] = .ok false (rngP p) [k'.d] ∧ Rg p ∧ k'.ok := by
  obtain ⟨v, k1, e1, v0, v1, h1⟩ := take_ok k hd 3 (by decide) (by decide)
  by_cases hv : v = 0
  · refine ⟨(0, 9), k1, ?_, ⟨by decide, by decide, by decide⟩, h1⟩
    unfold f__law_range c__law_range
    simp_arith [e1, hv]
    rfl
  · obtain ⟨lo, k2, e2, l0, l1, h2⟩ := take_ok k1 h1 6 (by decide) (by decide)
    by_cases hv1 : v = 1
    · refine ⟨(lo, lo), k2, ?_, ⟨l0, Int.le_refl _, by show lo ≤ 9; omega⟩, h2⟩
      unfold f__law_range c__law_range
      simp_arith [e1, hv1, e2, rngP]
    · obtain ⟨w, k3, e3, w0, w1, h3⟩ := take_ok k2 h2 (10 - lo) (by omega) (by omega)
      refine ⟨(lo, lo + w), k3, ?_, ⟨l0, by show lo ≤ lo + w; omega, by show lo + w ≤ 9; omega⟩, h3⟩
      unfold f__law_range c__law_range
      simp_arith [e1, hv, hv1, e2, e3, rngP]
end
end Pg

end

-- MDk2
section
/-! MDk2: drawn rules, long rows. -/
namespace Pg
open PySem L2 Ev
noncomputable section
local macro_rules | `(tactic| simp_arith [$ls,*]) => `(tactic| simp (config := { decide := false }) only [run_fin, Def.start, parSl, Option.map_some, List.replicate, List.cons_append, List.nil_append, List.append_nil, evalSs, evalS, evalE, ↓turn_def, ↓wturn_def, cl_next, cl_cnt, cl_brk, cl_ret, cl_exc, cl_bad, cl_ite, ↓lcC_def, evalEs, evalB, evalAs, evalT, evalTs, evalO, evalI, evalC, bind_ok', bind_bad', bind_exc', bind_ite, out_ok', out_bad', out_exc', out_ite, seq_next, seq_ret, seq_brk, seq_cnt, seq_exc, seq_bad, seq_ite, fin_next, fin_ret, fin_bad, fin_exc, fin_ite, nextO, op1, op2, ↓op2b_def, opN, giveT, getAll, Tm.get, Tm.esc, slot, Sl.get, share, take, takeAll, mkT, truOf, truD, cmpB, cmpD, ordD, binD, negD, notD, idxD, slcD, revD, biD, isiD, isD, isNone, ↓lcT_def, onTg, clr, rst, Res.noExc, List.map_cons, List.map_nil, List.all_cons, List.all_nil, plainAt, Sl.plain, Bool.and_true, Bool.and_self, tgIx, tgsIx, itemsOf, asgS, asgTg, asgTgs, Sl.opt, iosOf, endRet, doCall, doCallN, doCallB, isScal, lsetD, arGet, arIos, putIos, putIo, chgI, chgE, setAt, appAt, extAt, ownL, newL, newT, exAt, setX, noEx, Sl.notEx, evalHs, popE, popIx, augD, parS, eqD_int, eqD_str, at0, at1, at2, at3, at4, at5, w_group_group, w_group_single, w_group_part, w_group_go, w_single_group, w_single_single, w_single_part, w_single_go, w_part_group, w_part_single, w_part_part, w_part_go, w_go_group, w_go_single, w_go_part, w_go_go, sm0, sm1, sm2, sm3, sm4, sm5, sm6, sm7, sm8, sm9, sm10, sm11, sm12, sm13, sm14, sm15, sm16, sm17, sm18, sm19, sm20, sm21, sm22, sm23, sm24, sm25, sm26, sm27, sm28, sm29, sm30, sm31, sm32, sm33, sm34, sm35, sm36, sm37, sm38, sm39, sm40, List.getElem?_cons_zero, List.getElem?_cons_succ, List.set_cons_zero, List.set_cons_succ, List.nodup_nil, if_true, if_false, Bool.not_true, Bool.not_false, ↓reduceIte, Bool.false_eq_true, decide_eq_true_eq, List.nodup_cons, List.not_mem_nil, not_false_eq_true, and_self, true_and, and_true, Option.bind_some, Option.isSome_some, Option.getD_some, reduceCtorEq, decide_true, decide_false, Int.reduceLE, Int.reduceLT, Int.reduceEq, Int.reduceNe, Int.reduceAdd, Int.reduceSub, Int.reduceNeg, Nat.reduceAdd, Nat.reduceLeDiff, Int.cast_ofNat_Int, eq_self, List.length_cons, List.length_nil, Nat.zero_add, $ls,*])
local macro_rules | `(tactic| simp_arith) => `(tactic| simp (config := { decide := false }) only [run_fin, Def.start, parSl, Option.map_some, List.replicate, List.cons_append, List.nil_append, List.append_nil, evalSs, evalS, evalE, ↓turn_def, ↓wturn_def, cl_next, cl_cnt, cl_brk, cl_ret, cl_exc, cl_bad, cl_ite, ↓lcC_def, evalEs, evalB, evalAs, evalT, evalTs, evalO, evalI, evalC, bind_ok', bind_bad', bind_exc', bind_ite, out_ok', out_bad', out_exc', out_ite, seq_next, seq_ret, seq_brk, seq_cnt, seq_exc, seq_bad, seq_ite, fin_next, fin_ret, fin_bad, fin_exc, fin_ite, nextO, op1, op2, ↓op2b_def, opN, giveT, getAll, Tm.get, Tm.esc, slot, Sl.get, share, take, takeAll, mkT, truOf, truD, cmpB, cmpD, ordD, binD, negD, notD, idxD, slcD, revD, biD, isiD, isD, isNone, ↓lcT_def, onTg, clr, rst, Res.noExc, List.map_cons, List.map_nil, List.all_cons, List.all_nil, plainAt, Sl.plain, Bool.and_true, Bool.and_self, tgIx, tgsIx, itemsOf, asgS, asgTg, asgTgs, Sl.opt, iosOf, endRet, doCall, doCallN, doCallB, isScal, lsetD, arGet, arIos, putIos, putIo, chgI, chgE, setAt, appAt, extAt, ownL, newL, newT, exAt, setX, noEx, Sl.notEx, evalHs, popE, popIx, augD, parS, eqD_int, eqD_str, at0, at1, at2, at3, at4, at5, w_group_group, w_group_single, w_group_part, w_group_go, w_single_group, w_single_single, w_single_part, w_single_go, w_part_group, w_part_single, w_part_part, w_part_go, w_go_group, w_go_single, w_go_part, w_go_go, sm0, sm1, sm2, sm3, sm4, sm5, sm6, sm7, sm8, sm9, sm10, sm11, sm12, sm13, sm14, sm15, sm16, sm17, sm18, sm19, sm20, sm21, sm22, sm23, sm24, sm25, sm26, sm27, sm28, sm29, sm30, sm31, sm32, sm33, sm34, sm35, sm36, sm37, sm38, sm39, sm40, List.getElem?_cons_zero, List.getElem?_cons_succ, List.set_cons_zero, List.set_cons_succ, List.nodup_nil, if_true, if_false, Bool.not_true, Bool.not_false, ↓reduceIte, Bool.false_eq_true, decide_eq_true_eq, List.nodup_cons, List.not_mem_nil, not_false_eq_true, and_self, true_and, and_true, Option.bind_some, Option.isSome_some, Option.getD_some, reduceCtorEq, decide_true, decide_false, Int.reduceLE, Int.reduceLT, Int.reduceEq, Int.reduceNe, Int.reduceAdd, Int.reduceSub, Int.reduceNeg, Nat.reduceAdd, Nat.reduceLeDiff, Int.cast_ofNat_Int, eq_self, List.length_cons, List.length_nil, Nat.zero_add])
instance : Inhabited Dd := ⟨.go⟩
theorem snoc_len {α : Type} {xs : List α} {x : α} : (xs ++ [x]).length = xs.length + 1 := by simp
def dsD (ds : List Dd) : D := .list (ds.map fun d => .str d.s)
theorem x_rule0_ok (k : Dk) (hd : k.ok) (a b c d e f g h i j l : Sl) : ∃ p1 p2 p3, ∃ k' : Dk, evalE x__law_rule_0 [.io 0 k.d, a, b, c, d, e, f, g, h, i, j, l, .un] = .ok (.ow (.list [rngP p1, rngP p2, rngP p3])) [.io 0 k'.d, a, b, c, d, e, f, g, h, i, j, l, .un] ∧ Rg p1 ∧ Rg p2 ∧ Rg p3 ∧ k'.ok := by
  unfold x__law_rule_0
  have r3 : RngOk 3 := rngOk_small
  have t3 : (3 : Int).toNat = 3 := rfl
  refine lc_R (fun q : Dk => [.io 0 q.d, a, b, c, d, e, f, g, h, i, j, l, .un]) .int (rngL 0 3) (fun q rest acc => q.ok ∧ ∃ ps, acc = ps.map rngP ∧ ps.length + rest.length = 3 ∧ ∀ p ∈ ps, Rg p)
    (fun r => ∃ p1 p2 p3, ∃ k' : Dk, r = .ok (.ow (.list [rngP p1, rngP p2, rngP p3])) [.io 0 k'.d, a, b, c, d, e, f, g, h, i, j, l, .un] ∧ Rg p1 ∧ Rg p2 ∧ Rg p3 ∧ k'.ok) (ρ1 := [.io 0 k.d, a, b, c, d, e, f, g, h, i, j, l, .un])
    (by simp_arith [r3, rng_map, t3]) (by simp_arith) k (by simp_arith) ⟨hd, [], rfl, rfl, by simp⟩ ?_ ?_
  · rintro q n rest acc ⟨hq, ps, rfl, hl, hp⟩
    obtain ⟨p, k2, e2, h1, h2⟩ := range_ok q hq
    rw [List.length_cons] at hl
    refine ⟨some (rngP p), k2, by simp_arith [e2], ⟨h2, ps ++ [p], by simp, by rw [snoc_len]; omega, fun z hz => ?_⟩, by rw [List.length_map]; omega⟩
    rcases List.mem_append.mp hz with q | q
    · exact hp z q
    · rw [List.mem_singleton.mp q]; exact h1
  · rintro q acc ⟨hq, ps, rfl, hl, hp⟩
    match ps, hl with
    | [p1, p2, p3], _ => exact ⟨p1, p2, p3, q, by simp_arith [List.map_cons], hp p1 (by simp), hp p2 (by simp), hp p3 (by simp), hq⟩
/-- what is known of drawn rows -/
def Dr (moods : Int) (parts : Int) (r : Rr) : Prop := r.ok ∧ r.mood < moods ∧ r.after < moods ∧ (parts = 0 → r.deed ≠ .part)
def rlSt (most moods parts : Int) (ds : List Dd) (q : Dk × List Rr) : Rho := [.io 0 q.1.d, .sh (.int most), .sh (.int moods), .sh (.int parts), .sh (dsD ds), .ow (.list (q.2.map Rr.d)), .un, .un, .un, .un, .un, .un, .un]
theorem rule_loop1 (most moods parts : Int) (ds : List Dd) (hm : 1 ≤ moods ∧ moods ≤ 3) (hds : 1 ≤ ds.length ∧ ds.length ≤ 10) (hdp : parts = 0 → ∀ d ∈ ds, d ≠ .part) (k : Dk) (hd : k.ok) (n : Nat) (hn : n ≤ 8) :
    ∃ rs, ∃ k' : Dk, forL (evalSs fuel x__law_rule_1) (.nm 6) [6, 7, 8] (rngD 0 n) (rlSt most moods parts ds (k, [])) = .next (rlSt most moods parts ds (k', rs)) ∧ rs.length = n ∧ (∀ r ∈ rs, Dr moods parts r) ∧ k'.ok := by
  rw [rng_map]
  obtain ⟨q, e, hq, hl, hr⟩ := forL_R (body := evalSs fuel x__law_rule_1) (tg := .nm 6) (fg := [6, 7, 8]) (rlSt most moods parts ds) .int (fun q rest => q.1.ok ∧ q.2.length + rest.length = n ∧ ∀ r ∈ q.2, Dr moods parts r) (by
    rintro ⟨q, rs⟩ i rest ⟨hq, hl, hr⟩
    simp only [List.length_cons] at hq hl hr
    obtain ⟨p1, p2, p3, k1, e1, g1, g2, g3, h1⟩ := x_rule0_ok q hq (.sh (.int most)) (.sh (.int moods)) (.sh (.int parts)) (.sh (dsD ds)) (.ow (.list (rs.map Rr.d))) (.sh (.int i)) .un .un .un .un .un
    obtain ⟨u, k2, e2, u0, u1, h2⟩ := take_ok k1 h1 (ds.length : Int) (by omega) (by omega)
    obtain ⟨m1, k3, e3, v0, v1, h3⟩ := take_ok k2 h2 moods (by omega) (by omega)
    obtain ⟨m2, k4, e4, w0, w1, h4⟩ := take_ok k3 h3 moods (by omega) (by omega)
    have hat := at_map (fun d : Dd => (.str d.s : D)) ds u u0 u1
    generalize hdd : (ds[u.toNat]?.getD default) = dd at hat
    have hmem : dd ∈ ds := by rw [← hdd, List.getElem?_eq_getElem (by omega : u.toNat < ds.length)]; exact List.getElem_mem _
    have hlen : Sm (rs.length + 1) := sm
    refine ⟨(k4, rs ++ [⟨m1, p1, p2, p3, dd, m2⟩]), ?_, h4, by simp only [snoc_len]; omega, fun r hr' => ?_⟩
    · unfold rlSt x__law_rule_1 dsD at *
      generalize hL : ((ds.length : Nat) : Int) = L at *
      simp_arith [e1, List.length_map, hL, e2, hat, e3, e4, hlen, List.map_append, List.map_cons, List.map_nil, Rr.d]
    · rcases List.mem_append.mp hr' with q | q
      · exact hr r q
      · rw [List.mem_singleton.mp q]
        exact ⟨⟨⟨v0, by show m1 ≤ 2; omega⟩, g1, g2, g3, ⟨w0, by show m2 ≤ 2; omega⟩⟩, v1, w1, fun hp => hdp hp dd hmem⟩) (rngL 0 n) (k, []) (rlSt most moods parts ds (k, [])) (by unfold rlSt; simp_arith) ⟨hd, by rw [rngL_len]; simp, by simp⟩
  exact ⟨q.2, q.1, e, by simpa using hl, hr, hq⟩
theorem str_list (ds es : List Dd) : dsD ds = dsD es ↔ ds = es := by
  unfold dsD
  constructor
  · intro h
    injection h with h
    induction ds generalizing es with
    | nil => cases es with | nil => rfl | cons _ _ => cases h
    | cons d ds ih => cases es with
      | nil => cases h
      | cons e es =>
        simp only [List.map_cons, List.cons.injEq, PyData.str.injEq] at h
        rw [Dd.inj.mp h.1, ih es h.2]
  · rintro rfl; rfl
/-- the rows of one mood -/
def rlSt2 (most moods parts mood : Int) (ds os : List Dd) (q : Dk × List Rr) : Rho := [.io 0 q.1.d, .sh (.int most), .sh (.int moods), .sh (.int parts), .sh (dsD ds), .ow (.list (q.2.map Rr.d)), .un, .un, .un, .sh (.int mood), .sh (dsD os), .un, .un]
theorem rule_loop2 (most moods parts mood : Int) (ds os : List Dd) (hm : 1 ≤ moods ∧ moods ≤ 3) (hmo : 0 ≤ mood ∧ mood < moods) (hdp : parts = 0 → ∀ d ∈ os, d ≠ .part) (k : Dk) (hd : k.ok) (rs0 : List Rr) (hr : ∀ r ∈ rs0, Dr moods parts r) (hl : rs0.length + os.length ≤ 100) :
    ∃ rs', ∃ k' : Dk, forL (evalSs fuel x__law_rule_3) (.nm 8) [8, 11] (os.map fun d => .str d.s) (rlSt2 most moods parts mood ds os (k, rs0)) = .next (rlSt2 most moods parts mood ds os (k', rs')) ∧ rs'.length = rs0.length + os.length ∧ (∀ r ∈ rs', Dr moods parts r) ∧ k'.ok := by
  obtain ⟨q, e, hq, hl, hr, _⟩ := forL_R (body := evalSs fuel x__law_rule_3) (tg := .nm 8) (fg := [8, 11]) (rlSt2 most moods parts mood ds os) (fun d : Dd => (.str d.s : D)) (fun q rest => q.1.ok ∧ q.2.length + rest.length = rs0.length + os.length ∧ (∀ r ∈ q.2, Dr moods parts r) ∧ ∀ d ∈ rest, d ∈ os) (by
    rintro ⟨q, rs⟩ d rest ⟨hq, hl', hr, hmem⟩
    simp only [List.length_cons] at hq hl' hr
    obtain ⟨p, k1, e1, g1, h1⟩ := range_ok q hq
    obtain ⟨u, k2, e2, u0, u1, h2⟩ := take_ok k1 h1 4 (by decide) (by decide)
    obtain ⟨m2, k4, e4, w0, w1, h4⟩ := take_ok k2 h2 moods (by omega) (by omega)
    have hlen : Sm (rs.length + 1) := sm
    have hd' := hmem d List.mem_cons_self
    have r9 : Rg (0, 9) := ⟨by decide, by decide, by decide⟩
    have key : ∀ p', Rg p' → atI [PyData.tuple [.int 0, .int 9], .tuple [.int 0, .int 9], .tuple [.int 0, .int 9], rngP p] u = some (rngP p') →
        ∃ a', turn (evalSs fuel x__law_rule_3) (.nm 8) [8, 11] (.str d.s) (rlSt2 most moods parts mood ds os (q, rs)) = .next (rlSt2 most moods parts mood ds os a') ∧ a'.1.ok ∧ a'.2.length + rest.length = rs0.length + os.length ∧ (∀ r ∈ a'.2, Dr moods parts r) ∧ ∀ d ∈ rest, d ∈ os := by
      intro p' hp' hat
      refine ⟨(k4, rs ++ [⟨mood, (0, 9), p', (0, 9), d, m2⟩]), ?_, h4, by simp only [snoc_len]; omega, fun r hr' => ?_, fun z hz => hmem z (List.mem_cons_of_mem _ hz)⟩
      · unfold rlSt2 x__law_rule_3 dsD at *
        simp_arith [e1, e2, hat, e4, List.length_map, hlen, List.map_append, List.map_cons, List.map_nil, Rr.d]
        rfl
      · rcases List.mem_append.mp hr' with z | z
        · exact hr r z
        · rw [List.mem_singleton.mp z]
          exact ⟨⟨⟨hmo.1, by show mood ≤ 2; omega⟩, r9, hp', r9, ⟨w0, by show m2 ≤ 2; omega⟩⟩, hmo.2, w1, fun hp => hdp hp d hd'⟩
    have hu : u = 0 ∨ u = 1 ∨ u = 2 ∨ u = 3 := by omega
    rcases hu with rfl | rfl | rfl | rfl
    · exact key (0, 9) r9 (at0 ..)
    · exact key (0, 9) r9 (at1 ..)
    · exact key (0, 9) r9 (at2 ..)
    · exact key p g1 (at3 ..)) os (k, rs0) (rlSt2 most moods parts mood ds os (k, rs0)) (by unfold rlSt2; simp_arith) ⟨hd, rfl, hr, fun _ h => h⟩
  exact ⟨q.2, q.1, e, by simpa using hl, hr, hq⟩
theorem rule_loop3 (most moods parts : Int) (ds : List Dd) (hm : 1 ≤ moods ∧ moods ≤ 3) (hp : parts = 0 ∨ parts = 1) (k : Dk) (hd : k.ok) :
    ∃ rs, ∃ k' : Dk, forL (evalSs fuel x__law_rule_5) (.nm 9) [8, 9, 10, 11] (rngD 0 moods.toNat) (rlSt most moods parts ds (k, [])) = .next (rlSt most moods parts ds (k', rs)) ∧ rs.length ≤ 9 ∧ (∀ r ∈ rs, Dr moods parts r) ∧ k'.ok := by
  rw [rng_map]
  obtain ⟨q, e, hq, hl, hr, _⟩ := forL_R (body := evalSs fuel x__law_rule_5) (tg := .nm 9) (fg := [8, 9, 10, 11]) (rlSt most moods parts ds) .int (fun q rest => q.1.ok ∧ q.2.length + 3 * rest.length ≤ 9 ∧ (∀ r ∈ q.2, Dr moods parts r) ∧ ∀ n ∈ rest, 0 ≤ n ∧ n < moods) (by
    rintro ⟨q, rs⟩ mood rest ⟨hq, hl', hr, hmem⟩
    simp only [List.length_cons] at hq hl' hr
    have hmo := hmem mood List.mem_cons_self
    obtain ⟨u, k2, e2, u0, u1, h2⟩ := take_ok q hq 4 (by decide) (by decide)
    have key : ∀ os : List Dd, os.length ≤ 2 → (∀ d ∈ os, d ≠ .part) → atI [PyData.list [.str "group", .str "single"], .list [.str "single", .str "group"], .list [.str "group"], .list [.str "single"]] u = some (dsD os) →
        ∃ a', turn (evalSs fuel x__law_rule_5) (.nm 9) [8, 9, 10, 11] (.int mood) (rlSt most moods parts ds (q, rs)) = .next (rlSt most moods parts ds a') ∧ a'.1.ok ∧ a'.2.length + 3 * rest.length ≤ 9 ∧ (∀ r ∈ a'.2, Dr moods parts r) ∧ ∀ n ∈ rest, 0 ≤ n ∧ n < moods := by
      intro os hol hnp hat
      have plain : ∀ k3 : Dk, k3.ok → ∀ os' : List Dd, os'.length ≤ 3 → (parts = 0 → ∀ d ∈ os', d ≠ .part) → (∀ rs' : List Rr, ∀ k4 : Dk, forL (evalSs fuel x__law_rule_3) (.nm 8) [8, 11] (os'.map fun d => .str d.s) (rlSt2 most moods parts mood ds os' (k3, rs)) = .next (rlSt2 most moods parts mood ds os' (k4, rs')) → turn (evalSs fuel x__law_rule_5) (.nm 9) [8, 9, 10, 11] (.int mood) (rlSt most moods parts ds (q, rs)) = .next (rlSt most moods parts ds (k4, rs'))) →
          ∃ a', turn (evalSs fuel x__law_rule_5) (.nm 9) [8, 9, 10, 11] (.int mood) (rlSt most moods parts ds (q, rs)) = .next (rlSt most moods parts ds a') ∧ a'.1.ok ∧ a'.2.length + 3 * rest.length ≤ 9 ∧ (∀ r ∈ a'.2, Dr moods parts r) ∧ ∀ n ∈ rest, 0 ≤ n ∧ n < moods := by
        intro k3 h3 os' hol' hnp' hev
        obtain ⟨rs', k4, e4, l4, r4, h4⟩ := rule_loop2 most moods parts mood ds os' hm hmo hnp' k3 h3 rs hr (by omega)
        exact ⟨(k4, rs'), hev rs' k4 e4, h4, by simp only; omega, r4, fun n hn => hmem n (List.mem_cons_of_mem _ hn)⟩
      rcases hp with hp | hp
      · refine plain k2 h2 os (by omega) (fun _ => hnp) fun rs' k4 e4 => ?_
        unfold rlSt rlSt2 x__law_rule_5 x__law_rule_4 dsD at *
        simp_arith [e2, hat, hp, e4]
        subst hp
        simp_arith [e4]
      · obtain ⟨v, k3, e3, v0, v1, h3⟩ := take_ok k2 h2 3 (by decide) (by decide)
        by_cases hv : v = 1
        · refine plain k3 h3 (os ++ [.part]) (by rw [snoc_len]; omega) (fun h => by omega) fun rs' k4 e4 => ?_
          have hz : Sm (os.length + 1) := sm
          subst hp
          unfold rlSt rlSt2 x__law_rule_5 x__law_rule_4 dsD at *
          rw [List.map_append, List.map_cons, List.map_nil] at e4
          have ep : Dd.part.s = ("part" : Str) := rfl
          rw [ep] at e4
          simp_arith [e2, hat, e3, hv, List.length_map, hz, e4]
        · refine plain k3 h3 os (by omega) (fun h => by omega) fun rs' k4 e4 => ?_
          subst hp
          unfold rlSt rlSt2 x__law_rule_5 x__law_rule_4 dsD at *
          simp_arith [e2, hat, e3, hv, e4]
    have hu : u = 0 ∨ u = 1 ∨ u = 2 ∨ u = 3 := by omega
    rcases hu with rfl | rfl | rfl | rfl
    · exact key [.group, .single] (by decide) (by decide) (at0 ..)
    · exact key [.single, .group] (by decide) (by decide) (at1 ..)
    · exact key [.group] (by decide) (by decide) (at2 ..)
    · exact key [.single] (by decide) (by decide) (at3 ..)) (rngL 0 moods.toNat) (k, []) (rlSt most moods parts ds (k, [])) (by unfold rlSt; simp_arith) ⟨hd, by rw [rngL_len, List.length_nil]; omega, by simp, fun n hn => by rw [rngL_mem] at hn; omega⟩
  exact ⟨q.2, q.1, e, by rw [List.length_nil] at hl; omega, hr, hq⟩
def ddL (parts : Int) : List Dd := if parts = 0 then [.group, .single, .go, .group, .single] else [.group, .single, .go, .group, .single, .part]
/-- a drawn rule -/
theorem rule_ok (k : Dk) (hd : k.ok) (most moods parts : Int) (hmost : 0 ≤ most ∧ most ≤ 8) (hm : 1 ≤ moods ∧ moods ≤ 3) (hp : parts = 0 ∨ parts = 1) :
    ∃ rs, ∃ k' : Dk, f__law_rule [k.d, .int most, .int moods, .int parts] = .ok false (ruD rs) [k'.d] ∧ RuOk rs ∧ (∀ r ∈ rs, Dr moods parts r) ∧ k'.ok := by
  obtain ⟨u, k1, e1, u0, u1, h1⟩ := take_ok k hd 2 (by decide) (by decide)
  have hds : cut [PyData.str "group", .str "single", .str "go", .str "group", .str "single", .str "part"] none (some (5 + parts)) = (ddL parts).map fun d => .str d.s := by
    rw [cut_to _ _ (by omega)]
    rcases hp with rfl | rfl
    · rfl
    · rfl
  have hdl : 1 ≤ (ddL parts).length ∧ (ddL parts).length ≤ 10 := by rcases hp with rfl | rfl <;> decide
  have hdp : parts = 0 → ∀ d ∈ ddL parts, d ≠ .part := by rintro rfl; decide
  by_cases hu : u = 1
  · obtain ⟨v, k2, e2, v0, v1, h2⟩ := take_ok k1 h1 (most + 1) (by omega) (by omega)
    obtain ⟨rs, k3, e3, l3, r3, h3⟩ := rule_loop1 most moods parts (ddL parts) hm hdl hdp k2 h2 v.toNat (by omega)
    have hr : RngOk v := rngOk_small (by omega) (by omega)
    refine ⟨rs, k3, ?_, ⟨by omega, fun r hr => (r3 r hr).1⟩, r3, h3⟩
    unfold f__law_rule c__law_rule x__law_rule_2
    simp only [rlSt, dsD, List.map_nil] at e3
    simp_arith [hds, e1, hu, e2, hr, e3]
    rfl
  · obtain ⟨rs, k3, e3, l3, r3, h3⟩ := rule_loop3 most moods parts (ddL parts) hm hp k1 h1
    have hr : RngOk moods := rngOk_small (by omega) (by omega)
    refine ⟨rs.take 8, k3, ?_, ⟨by rw [List.length_take]; omega, fun r hr => (r3 r (List.mem_of_mem_take hr)).1⟩, fun r hr => r3 r (List.mem_of_mem_take hr), h3⟩
    unfold f__law_rule c__law_rule x__law_rule_6
    simp only [rlSt, dsD, List.map_nil] at e3
    simp_arith [hds, e1, hu, hr, e3, cut_to _ 8 (by decide)]
    unfold ruD
    rw [List.map_take]
    rfl
/-- a long row -/
theorem long_row_ok (ns : List Int) (hns : ns.length ≤ 63) (s : Su) (h : s.ok) (k : Dk) (hd : k.ok) (most : Int) (hm : 0 ≤ most) : ∃ rs, ∃ k' : Dk, f__law_long_row [.list (intL ns), k.d, s.d, .int most] = .ok true (rowD rs) [k'.d] ∧ (rs.length : Int) ≤ most ∧ rs.length ≤ 300 ∧ (∀ c ∈ rs, c.ok s) ∧ k'.ok := by
  obtain ⟨u, k1, e1, u0, u1, h1⟩ := take_ok k hd 6 (by decide) (by decide)
  obtain ⟨rs0, k2, e2, l2, c2, h2⟩ := row1_ok s h k1 h1 u u0 (by omega)
  have key : ∃ rs, forL (evalSs fuel x__law_long_row_0) (.nm 5) [5, 6] (rngD 1 (ns.length - 1)) [.sh (.list (intL ns)), .io 0 k2.d, .sh s.d, .sh (.int most), .ow (rowD rs0), .un, .un] = .next [.sh (.list (intL ns)), .io 0 k2.d, .sh s.d, .sh (.int most), .ow (rowD rs), .un, .un] ∧ rs.length ≤ 300 ∧ ∀ c ∈ rs, c.ok s := by
    rw [rng_map]
    obtain ⟨rs, e, hc, hl, _⟩ := forL_R (body := evalSs fuel x__law_long_row_0) (tg := .nm 5) (fg := [5, 6]) (fun rs : List Cm => [.sh (.list (intL ns)), .io 0 k2.d, .sh s.d, .sh (.int most), .ow (rowD rs), .un, .un]) .int (fun rs rest => (∀ c ∈ rs, c.ok s) ∧ rs.length + 4 * rest.length ≤ 300 ∧ ∀ n ∈ rest, 0 ≤ n ∧ n < 63) (by
      rintro rs n rest ⟨hc, hl, hn⟩
      have hn1 := hn n List.mem_cons_self
      simp only [List.length_cons] at hl
      obtain ⟨o, e3, g3⟩ := deck_ok ns n hn1.1 (by omega)
      obtain ⟨v, o1, e4, v0, v1, g4⟩ := take_ok o g3 4 (by decide) (by decide)
      obtain ⟨more, o2, e5, l5, c5, g5⟩ := row1_ok s h o1 g4 (1 + v) (by omega) (by omega)
      refine ⟨rs ++ more, ?_, fun c hc' => ?_, by rw [List.length_append]; omega, fun z hz => hn z (List.mem_cons_of_mem _ hz)⟩
      · have hlen : Sm (rs.length + more.length) := sm
        unfold x__law_long_row_0
        unfold rowD at *
        simp_arith [e3, e4, e5, List.length_map, hlen, List.map_append, show ¬ (4 : Nat) = 6 by decide]
      · rcases List.mem_append.mp hc' with q | q
        · exact hc c q
        · exact c5 c q) (rngL 1 (ns.length - 1)) rs0 [.sh (.list (intL ns)), .io 0 k2.d, .sh s.d, .sh (.int most), .ow (rowD rs0), .un, .un] (by simp_arith) ⟨c2, by rw [rngL_len]; omega, fun n hn => by rw [rngL_mem] at hn; omega⟩
    exact ⟨rs, e, by omega, hc⟩
  obtain ⟨rs, e, hl, hc⟩ := key
  refine ⟨rs.take most.toNat, k2, ?_, by rw [List.length_take]; omega, by rw [List.length_take]; omega, fun c hc' => hc c (List.mem_of_mem_take hc'), h2⟩
  have r1 : RngOk 1 := rngOk_small
  have er : (((ns.length : Int)) - 1).toNat = ns.length - 1 := by omega
  have hr : RngOk (ns.length : Int) := rngOk_small (by omega) (by omega)
  have h63 : ¬ (63 : Int) < (ns.length : Int) := by omega
  have hmx : (if (63 : Int) < (ns.length : Int) then (63 : Int) else (ns.length : Int)) = (ns.length : Int) := if_neg h63
  unfold f__law_long_row c__law_long_row x__law_long_row_1
  unfold rowD at *
  generalize hN : ((ns.length : Nat) : Int) = N at *
  simp_arith [e1, e2, intL_len, hN, r1, hr, er, hmx, e, cut_to _ most hm, List.map_take]
end
end Pg

end

-- MLb
section
/-! MLb: a beat as the laws k06 .. work it out. -/
namespace Pg
open PySem L2 Ev
noncomputable section
local macro_rules | `(tactic| simp_arith [$ls,*]) => `(tactic| simp (config := { decide := false }) only [run_fin, Def.start, parSl, Option.map_some, List.replicate, List.cons_append, List.nil_append, List.append_nil, evalSs, evalS, evalE, ↓turn_def, ↓wturn_def, cl_next, cl_cnt, cl_brk, cl_ret, cl_exc, cl_bad, cl_ite, ↓lcC_def, evalEs, evalB, evalAs, evalT, evalTs, evalO, evalI, evalC, bind_ok', bind_bad', bind_exc', bind_ite, out_ok', out_bad', out_exc', out_ite, seq_next, seq_ret, seq_brk, seq_cnt, seq_exc, seq_bad, seq_ite, fin_next, fin_ret, fin_bad, fin_exc, fin_ite, nextO, op1, op2, ↓op2b_def, opN, giveT, getAll, Tm.get, Tm.esc, slot, Sl.get, share, take, takeAll, mkT, truOf, truD, cmpB, cmpD, ordD, binD, negD, notD, idxD, slcD, revD, biD, isiD, isD, isNone, ↓lcT_def, onTg, clr, rst, Res.noExc, List.map_cons, List.map_nil, List.all_cons, List.all_nil, plainAt, Sl.plain, Bool.and_true, Bool.and_self, tgIx, tgsIx, itemsOf, asgS, asgTg, asgTgs, Sl.opt, iosOf, endRet, doCall, doCallN, doCallB, isScal, lsetD, arGet, arIos, putIos, putIo, chgI, chgE, setAt, appAt, extAt, ownL, newL, newT, exAt, setX, noEx, Sl.notEx, evalHs, popE, popIx, augD, parS, eqD_int, eqD_str, at0, at1, at2, at3, at4, at5, w_group_group, w_group_single, w_group_part, w_group_go, w_single_group, w_single_single, w_single_part, w_single_go, w_part_group, w_part_single, w_part_part, w_part_go, w_go_group, w_go_single, w_go_part, w_go_go, sm0, sm1, sm2, sm3, sm4, sm5, sm6, sm7, sm8, sm9, sm10, sm11, sm12, sm13, sm14, sm15, sm16, sm17, sm18, sm19, sm20, sm21, sm22, sm23, sm24, sm25, sm26, sm27, sm28, sm29, sm30, sm31, sm32, sm33, sm34, sm35, sm36, sm37, sm38, sm39, sm40, List.getElem?_cons_zero, List.getElem?_cons_succ, List.set_cons_zero, List.set_cons_succ, List.nodup_nil, if_true, if_false, Bool.not_true, Bool.not_false, ↓reduceIte, Bool.false_eq_true, decide_eq_true_eq, List.nodup_cons, List.not_mem_nil, not_false_eq_true, and_self, true_and, and_true, Option.bind_some, Option.isSome_some, Option.getD_some, reduceCtorEq, decide_true, decide_false, Int.reduceLE, Int.reduceLT, Int.reduceEq, Int.reduceNe, Int.reduceAdd, Int.reduceSub, Int.reduceNeg, Nat.reduceAdd, Nat.reduceLeDiff, Int.cast_ofNat_Int, eq_self, List.length_cons, List.length_nil, Nat.zero_add, $ls,*])
local macro_rules | `(tactic| simp_arith) => `(tactic| simp (config := { decide := false }) only [run_fin, Def.start, parSl, Option.map_some, List.replicate, List.cons_append, List.nil_append, List.append_nil, evalSs, evalS, evalE, ↓turn_def, ↓wturn_def, cl_next, cl_cnt, cl_brk, cl_ret, cl_exc, cl_bad, cl_ite, ↓lcC_def, evalEs, evalB, evalAs, evalT, evalTs, evalO, evalI, evalC, bind_ok', bind_bad', bind_exc', bind_ite, out_ok', out_bad', out_exc', out_ite, seq_next, seq_ret, seq_brk, seq_cnt, seq_exc, seq_bad, seq_ite, fin_next, fin_ret, fin_bad, fin_exc, fin_ite, nextO, op1, op2, ↓op2b_def, opN, giveT, getAll, Tm.get, Tm.esc, slot, Sl.get, share, take, takeAll, mkT, truOf, truD, cmpB, cmpD, ordD, binD, negD, notD, idxD, slcD, revD, biD, isiD, isD, isNone, ↓lcT_def, onTg, clr, rst, Res.noExc, List.map_cons, List.map_nil, List.all_cons, List.all_nil, plainAt, Sl.plain, Bool.and_true, Bool.and_self, tgIx, tgsIx, itemsOf, asgS, asgTg, asgTgs, Sl.opt, iosOf, endRet, doCall, doCallN, doCallB, isScal, lsetD, arGet, arIos, putIos, putIo, chgI, chgE, setAt, appAt, extAt, ownL, newL, newT, exAt, setX, noEx, Sl.notEx, evalHs, popE, popIx, augD, parS, eqD_int, eqD_str, at0, at1, at2, at3, at4, at5, w_group_group, w_group_single, w_group_part, w_group_go, w_single_group, w_single_single, w_single_part, w_single_go, w_part_group, w_part_single, w_part_part, w_part_go, w_go_group, w_go_single, w_go_part, w_go_go, sm0, sm1, sm2, sm3, sm4, sm5, sm6, sm7, sm8, sm9, sm10, sm11, sm12, sm13, sm14, sm15, sm16, sm17, sm18, sm19, sm20, sm21, sm22, sm23, sm24, sm25, sm26, sm27, sm28, sm29, sm30, sm31, sm32, sm33, sm34, sm35, sm36, sm37, sm38, sm39, sm40, List.getElem?_cons_zero, List.getElem?_cons_succ, List.set_cons_zero, List.set_cons_succ, List.nodup_nil, if_true, if_false, Bool.not_true, Bool.not_false, ↓reduceIte, Bool.false_eq_true, decide_eq_true_eq, List.nodup_cons, List.not_mem_nil, not_false_eq_true, and_self, true_and, and_true, Option.bind_some, Option.isSome_some, Option.getD_some, reduceCtorEq, decide_true, decide_false, Int.reduceLE, Int.reduceLT, Int.reduceEq, Int.reduceNe, Int.reduceAdd, Int.reduceSub, Int.reduceNeg, Nat.reduceAdd, Nat.reduceLeDiff, Int.cast_ofNat_Int, eq_self, List.length_cons, List.length_nil, Nat.zero_add])
theorem rrD_pl (r : Rr) : pl 5 r.d = true := by
  unfold Rr.d rngP
  simp only [pl_tup, pls_cons, pls_nil, pl_int, pl_str, Bool.and_true, Bool.true_and]
  cases r.deed <;> decide +kernel
theorem eqD_rows (rs : List Rr) : eqD (.list (rs.map Rr.d)) (.list []) = some (decide (rs = [])) := by
  rw [eqD_pl 6 (by rw [pl_lst]; exact pls_map fun r _ => rrD_pl r) (by rw [pl_lst]; exact pls_nil)]
  cases rs <;> simp
theorem group_beq (d : Dd) : (d.s == ("group" : Str)) = decide (d = .group) := by
  rw [str_eq]
  by_cases h : d = .group
  · rw [h]; rfl
  · rw [decide_eq_false h, decide_eq_false]; exact fun q => h (Dd.inj.mp q)
theorem single_beq (d : Dd) : (d.s == ("single" : Str)) = decide (d = .single) := by
  rw [str_eq]
  by_cases h : d = .single
  · rw [h]; rfl
  · rw [decide_eq_false h, decide_eq_false]; exact fun q => h (Dd.inj.mp q)
theorem part_beq (d : Dd) : (d.s == ("part" : Str)) = decide (d = .part) := by
  rw [str_eq]
  by_cases h : d = .part
  · rw [h]; rfl
  · rw [decide_eq_false h, decide_eq_false]; exact fun q => h (Dd.inj.mp q)
theorem law_fits2_ok (r : Rr) (mood front left singles : Int) : f__law_fits__2 [r.d, .int mood, .int front, .int left, .int singles] = .ok false (.bool (fitsM mood front left singles r)) [] := by
  unfold f__law_fits__2 c__law_fits__2 fitsM inRgg
  by_cases h1 : r.mood = mood
  · by_cases h2 : r.f.1 ≤ front
    · by_cases h2' : front ≤ r.f.2
      · by_cases h3 : r.l.1 ≤ left
        · by_cases h3' : left ≤ r.l.2
          · by_cases h4 : r.w.1 ≤ singles
            · by_cases h4' : singles ≤ r.w.2
              · simp_arith [Rr.d, rngP, h1, h2, h2', h3, h3', h4, h4', group_beq, single_beq, go_beq]
                cases r.deed with
                | group => simp_arith [canM]; by_cases k : 0 < front <;> simp [k, endRet, iosOf, fin]
                | single => simp_arith [canM]; by_cases k : 0 < singles <;> simp [k, endRet, iosOf, fin]
                | part => simp_arith [canM]; by_cases k : left < front <;> simp [k, endRet, iosOf, fin]
                | go => simp_arith [canM]
              · simp_arith [Rr.d, rngP, h1, h2, h2', h3, h3', h4, h4']; simp
            · simp_arith [Rr.d, rngP, h1, h2, h2', h3, h3', h4]; simp
          · simp_arith [Rr.d, rngP, h1, h2, h2', h3, h3']; simp
        · simp_arith [Rr.d, rngP, h1, h2, h2', h3]; simp
      · simp_arith [Rr.d, rngP, h1, h2, h2']; simp
    · simp_arith [Rr.d, rngP, h1, h2]; simp
  · simp_arith [Rr.d, rngP, h1]; simp
theorem x_filled0_ok (rs : List Rr) (hl : rs.length ≤ 1000) (a b c : Sl) (singles left mood front : Int) : evalE x__law_filled_0 [.sh (ruD rs), a, .sh (.int singles), .sh (.int left), .sh (.int mood), b, c, .sh (.int front), .un, .un] =
    .ok (.ow (.list ((rs.filter (fitsM mood front left singles)).map Rr.d))) [.sh (ruD rs), a, .sh (.int singles), .sh (.int left), .sh (.int mood), b, c, .sh (.int front), .un, .un] := by
  unfold x__law_filled_0
  refine lc_filter Rr.d rs _ _ (by unfold ruD; simp_arith) (by simp_arith) (by omega) fun r _ => ?_
  simp_arith [law_fits2_ok]
  cases fitsM mood front left singles r <;> rfl
def lfSt (rs : List Rr) (a : List Dn × List Int × Int × Int × Int) : Rho := [.sh (ruD rs), .sh (.list (intL a.2.1)), .sh (.int a.2.2.1), .sh (.int a.2.2.2.1), .sh (.int a.2.2.2.2), .ow (.list (a.1.map dnD)), .un, .un, .un, .un]
def flD (z : Fl) : D := .tuple [dnsD z.deeds, .int z.left, .tuple (intL z.line), .int z.singles, .int z.mood]
theorem intL_cut1 (x : Int) (xs : List Int) : cut (intL (x :: xs)) (some 1) none = intL xs := cut_tail ..
theorem headD_app (l : List Int) : atI (intL l ++ [.int 0]) 0 = some (.int (l.headD 0)) := by
  cases l with
  | nil => rfl
  | cons x xs => exact at0 ..
theorem law_filled_ok (rs : List Rr) (hrl : rs.length ≤ 1000) (line : List Int) (singles left mood : Int) (hl : line.length ≤ 1000) (h5 : left ≤ 5) : f__law_filled [ruD rs, .list (intL line), .int singles, .int left, .int mood] = .ok false (flD (fillM rs line singles left mood)) [] := by
  have key := forL_P (body := evalSs fuel x__law_filled_1) (tg := .nm 6) (fg := [6, 7, 8]) (lfSt rs) .int
    (fun a rest => a.2.1.length ≤ 1000 ∧ a.1.length ≤ 100 - rest.length ∧ rest.length ≤ 100 ∧ a.2.2.2.1.toNat < rest.length ∧ (⟨a.1 ++ (fillM rs a.2.1 a.2.2.1 a.2.2.2.1 a.2.2.2.2).deeds, (fillM rs a.2.1 a.2.2.1 a.2.2.2.1 a.2.2.2.2).left, (fillM rs a.2.1 a.2.2.1 a.2.2.2.1 a.2.2.2.2).line, (fillM rs a.2.1 a.2.2.1 a.2.2.2.1 a.2.2.2.2).singles, (fillM rs a.2.1 a.2.2.1 a.2.2.2.1 a.2.2.2.2).mood⟩ : Fl) = fillM rs line singles left mood)
    (fun o => ∃ ρ, o = .ret (.sh (flD (fillM rs line singles left mood))) ρ ∧ iosOf c__law_filled.pars ρ = some [])
    (fun a i rest ⟨h1, h1', h1'', h2, h3⟩ => by
      obtain ⟨ds, li, si, le, mo⟩ := a
      simp only [List.length_cons] at h1 h1' h1'' h2 h3
      have hx := x_filled0_ok rs hrl (.sh (.list (intL li))) (.ow (.list (ds.map dnD))) (.sh (.int i)) si le mo (li.headD 0)
      have hz : Sm (li.length + 1) := sm
      have hlen : Sm (ds.length + 1) := sm
      have hhd := List.head?_filter (p := fitsM mo (li.headD 0) le si) (l := rs)
      have hmap := eqD_rows (rs.filter (fitsM mo (li.headD 0) le si))
      have ha := headD_app li
      generalize hfil : rs.filter (fitsM mo (li.headD 0) le si) = fs at hx hhd hmap
      cases fs with
      | nil =>
        have hf : rs.find? (fitsM mo (li.headD 0) le si) = none := hhd.symm
        rw [fillM_none hf] at h3
        refine .inr (.inr (.inl ⟨_, [.sh (ruD rs), .sh (.list (intL li)), .sh (.int si), .sh (.int le), .sh (.int mo), .ow (.list (ds.map dnD)), .sh (.int i), .sh (.int (li.headD 0)), .sh (.list []), .un], ?_, ⟨_, rfl, rfl⟩⟩))
        rw [← h3]
        simp only [List.map_nil] at hx hmap
        unfold lfSt x__law_filled_1 flD dnsD
        simp_arith [intL_len, hz, ha, hx, hmap]
      | cons r fs =>
        have hf : rs.find? (fitsM mo (li.headD 0) le si) = some r := hhd.symm
        simp only [List.map_cons] at hx hmap
        generalize hF : fs.map Rr.d = F at hx hmap
        by_cases hd : r.deed = .go
        · rw [fillM_go hf hd] at h3
          refine .inr (.inr (.inl ⟨_, [.sh (ruD rs), .sh (.list (intL li)), .sh (.int si), .sh (.int le), .sh (.int r.after), .ow (.list (ds.map dnD)), .sh (.int i), .sh (.int (li.headD 0)), .sh (.list (r.d :: F)), .un], ?_, ⟨_, rfl, rfl⟩⟩))
          rw [← h3]
          unfold lfSt x__law_filled_1 flD dnsD
          unfold Rr.d at hx hmap ⊢
          rw [hd] at hx hmap ⊢
          simp_arith [intL_len, hz, ha, hx, hmap, List.cons_ne_nil, go_beq]
        · rw [fillM_do hf hd] at h3
          have hc := find_can hf
          have hlt := seat_left hc hd
          refine .inl ⟨(ds ++ [(seatM r.deed li si le).1], (seatM r.deed li si le).2.1, (seatM r.deed li si le).2.2.1, (seatM r.deed li si le).2.2.2, r.after), ?_, Nat.le_trans (seat_len hc hd) h1, by simp only [snoc_len]; omega, by omega, by simp only; omega, ?_⟩
          · unfold lfSt x__law_filled_1
            unfold Rr.d at hx hmap
            cases hdd : r.deed with
            | go => exact absurd hdd hd
            | group =>
              rw [hdd] at hc hx hmap
              obtain ⟨x, xs, rfl, k1, k2⟩ := canM_line hc (.inl rfl)
              rw [List.length_cons] at hz
              simp only [List.headD_cons, Dd.s] at hx hmap
              simp_arith [intL_len, hz, ha, hx, hmap, List.cons_ne_nil, go_beq, group_beq, List.length_map, hlen, intL_cut1, List.map_append, List.map_cons, List.map_nil, seatM, dnD, List.headD_cons, List.tail_cons, Dd.s]
            | single =>
              rw [hdd] at hx hmap
              simp only [Dd.s] at hx hmap
              simp_arith [intL_len, hz, ha, hx, hmap, List.cons_ne_nil, go_beq, group_beq, single_beq, List.length_map, hlen, List.map_append, List.map_cons, List.map_nil, seatM, dnD, Dd.s]
            | part =>
              rw [hdd] at hc hx hmap
              obtain ⟨x, xs, rfl, k1, k2⟩ := canM_line hc (.inr rfl)
              have hz2 : Sm (1 + xs.length) := by simp only [List.length_cons] at h1; exact sm
              rw [List.length_cons] at hz
              simp only [List.headD_cons, Dd.s] at hx hmap
              simp_arith [intL_len, hz, hz2, ha, hx, hmap, List.cons_ne_nil, go_beq, group_beq, single_beq, List.length_map, hlen, intL_cut1, List.map_append, List.map_cons, List.map_nil, seatM, dnD, List.headD_cons, List.tail_cons, Dd.s, List.singleton_append, intL_cons]
          · rw [← h3]; simp)
    (fun a ⟨_, _, _, h, _⟩ => absurd h (by simp)) (rngL 0 7) ([], line, singles, left, mood) (lfSt rs ([], line, singles, left, mood)) (by unfold lfSt; simp_arith) ⟨hl, by rw [rngL_len]; simp, by rw [rngL_len]; decide, by rw [rngL_len]; simp only; omega, by simp⟩
  obtain ⟨ρ, e, hi⟩ := key
  have r7 : RngOk 7 := rngOk_small
  have t7 : (7 : Int).toNat = 7 := rfl
  simp only [lfSt, List.map_nil] at e
  unfold f__law_filled c__law_filled x__law_filled_2
  unfold c__law_filled at hi
  simp_arith [r7, rng_map, t7, e, hi]
theorem at_map0 {α : Type} (f : α → D) (x : α) (xs : List α) : atI ((x :: xs).map f) 0 = some (f x) := at0 ..
/-- the comers let in, one by one -/
def lbSt (s : Su) (rs : List Rr) (t : St) (c : Cm) (a : List Int × Int) : Rho := [.sh s.d, .sh (ruD rs), .sh t.d, .sh c.d, .sh (.int t.turn), .ow (.list (intL a.1)), .sh (.int t.singles), .sh (.int t.mood), .ow (.list [.int a.2, .int 0]), .un, .un, .un, .un, .un]
theorem lb_loop1 (s : Su) (h : s.ok) (rs : List Rr) (t : St) (ht : t.ok s) (c : Cm) (hc : c.gs.length ≤ 1000) : forL (evalSs fuel x__law_beat__2_0) (.nm 9) [9] (intL c.gs) (lbSt s rs t c (t.line, 0)) = .next (lbSt s rs t c (hereM s t.line c.gs, (t.line.length : Int) + c.gs.length - (hereM s t.line c.gs).length)) := by
  have hr := h.r1
  have hl := ht.ll
  refine forL_P (body := evalSs fuel x__law_beat__2_0) (tg := .nm 9) (fg := [9]) (lbSt s rs t c) .int (fun a rest => (a.1.length : Int) ≤ s.r1 ∧ rest.length ≤ 1000 ∧ hereM s a.1 rest = hereM s t.line c.gs ∧ a.2 + a.1.length + rest.length = (t.line.length : Int) + c.gs.length)
    (fun o => o = .next (lbSt s rs t c (hereM s t.line c.gs, (t.line.length : Int) + c.gs.length - (hereM s t.line c.gs).length))) (fun a n rest ⟨h1, h2, h3, h4⟩ => ?_) (fun a ⟨h1, h2, h3, h4⟩ => ?_) c.gs (t.line, 0) _ (by unfold lbSt; simp_arith) ⟨hl, hc, rfl, by simp only; omega⟩
  · obtain ⟨li, aw⟩ := a
    simp only [List.length_cons] at h1 h2 h3 h4
    have hlen : Sm (li.length + 1) := by unfold Sm; omega
    have i0 : ixN 2 0 = some 0 := rfl
    by_cases hz : (li.length : Int) < s.r1
    · refine .inl ⟨(li ++ [n], aw), ?_, by simp only [snoc_len]; omega, by omega, ?_, by simp only [snoc_len]; push_cast at h4 ⊢; omega⟩
      · unfold lbSt x__law_beat__2_0 Su.d
        simp_arith [intL_len, hz, hlen, intL_snoc]
      · rw [← h3]; unfold hereM; simp
    · refine .inl ⟨(li, aw + 1), ?_, h1, by omega, ?_, by push_cast at h4 ⊢; omega⟩
      · unfold lbSt x__law_beat__2_0 Su.d
        simp_arith [intL_len, hz, i0, Int.toNat_zero]
      · rw [← h3]; unfold hereM
        have : s.r1.toNat = li.length := by omega
        rw [this, List.take_left', List.take_left'] <;> rfl
  · obtain ⟨li, aw⟩ := a
    simp only [List.length_nil] at h1 h2 h3 h4
    have e : hereM s li [] = li := by unfold hereM; rw [List.append_nil, List.take_of_length_le (by omega)]
    rw [e] at h3
    rw [← h3]
    have : aw = (t.line.length : Int) + c.gs.length - (li.length : Int) := by push_cast at h4; omega
    rw [this]
def lbSt2 (s : Su) (rs : List Rr) (t : St) (c : Cm) (line : List Int) (a1 : Int) (a : Int × Int) : Rho := [.sh s.d, .sh (ruD rs), .sh t.d, .sh c.d, .sh (.int t.turn), .ow (.list (intL line)), .sh (.int a.1), .sh (.int t.mood), .ow (.list [.int a1, .int a.2]), .un, .un, .un, .un, .un]
theorem lb_loop2 (s : Su) (h : s.ok) (rs : List Rr) (t : St) (ht : t.ok s) (c : Cm) (line : List Int) (a1 : Int) (hc : 0 ≤ c.n) : forL (evalSs fuel x__law_beat__2_2) (.nm 10) [10] (rngD 0 c.n.toNat) (lbSt2 s rs t c line a1 (t.singles, 0)) = .next (lbSt2 s rs t c line a1 (waitM s t.singles c.n, t.singles + c.n - waitM s t.singles c.n)) := by
  have hr := h.r2
  have hl := ht.ss
  rw [rng_map]
  refine forL_P (body := evalSs fuel x__law_beat__2_2) (tg := .nm 10) (fg := [10]) (lbSt2 s rs t c line a1) .int (fun a rest => a.1 ≤ s.r2 ∧ waitM s a.1 (rest.length : Int) = waitM s t.singles c.n ∧ a.2 + a.1 + rest.length = t.singles + c.n)
    (fun o => o = .next (lbSt2 s rs t c line a1 (waitM s t.singles c.n, t.singles + c.n - waitM s t.singles c.n))) (fun a n rest ⟨h1, h3, h4⟩ => ?_) (fun a ⟨h1, h3, h4⟩ => ?_) (rngL 0 c.n.toNat) (t.singles, 0) _ (by unfold lbSt2; simp_arith) ⟨hl.2, by rw [rngL_len]; congr 1; omega, by rw [rngL_len]; simp only; omega⟩
  · obtain ⟨si, aw⟩ := a
    simp only [List.length_cons] at h1 h3 h4
    have i1 : ixN 2 1 = some 1 := rfl
    have t1 : (1 : Int).toNat = 1 := rfl
    by_cases hz : si < s.r2
    · refine .inl ⟨(si + 1, aw), ?_, by simp only; omega, ?_, by push_cast at h4 ⊢; omega⟩
      · unfold lbSt2 x__law_beat__2_2 Su.d
        simp_arith [hz]
      · rw [← h3]; unfold waitM; push_cast; split <;> split <;> omega
    · refine .inl ⟨(si, aw + 1), ?_, h1, ?_, by push_cast at h4 ⊢; omega⟩
      · unfold lbSt2 x__law_beat__2_2 Su.d
        simp_arith [hz, i1, t1]
      · rw [← h3]; unfold waitM; push_cast; split <;> split <;> omega
  · obtain ⟨si, aw⟩ := a
    simp only [List.length_nil] at h1 h3 h4
    have e : waitM s si ((0 : Nat) : Int) = si := by unfold waitM; split <;> omega
    rw [e] at h3
    rw [← h3]
    have : aw = t.singles + c.n - si := by push_cast at h4; omega
    rw [this]
theorem law_beat2_ok (s : Su) (h : s.ok) (rs : List Rr) (hrl : rs.length ≤ 1000) (t : St) (ht : t.ok s) (c : Cm) (hc : c.gs.length ≤ 1000) (hn : 0 ≤ c.n ∧ c.n ≤ 1000) : f__law_beat__2 [s.d, ruD rs, t.d, c.d] = .ok false (.tuple [(beatM s rs t c).1.d, (beatM s rs t c).2.d]) [] := by
  have e1 := lb_loop1 s h rs t ht c hc
  have e2 := lb_loop2 s h rs t ht c (hereM s t.line c.gs) ((t.line.length : Int) + c.gs.length - (hereM s t.line c.gs).length) hn.1
  have hpos : (0 : Int) < (s.seats.length : Int) := by have := h.s1; omega
  have hsr := seats_rg s h t.turn ht.tt.1 ht.tt.2
  have hat : atI (intL s.seats) t.turn = some (.int (seatsM s t.turn)) := at_intL s.seats t.turn ht.tt.1 ht.tt.2
  have hf := law_filled_ok rs hrl (hereM s t.line c.gs) (waitM s t.singles c.n) (seatsM s t.turn) t.mood (by have := here_len s t.line c.gs h; have := h.r1; omega) hsr.2
  have hrn : RngOk c.n := rngOk_small
  unfold f__law_beat__2 c__law_beat__2 x__law_beat__2_1 x__law_beat__2_3 t__law_beat__2_5 beatM Ch.d
  unfold lbSt St.d Cm.d at e1
  unfold lbSt2 St.d Cm.d at e2
  unfold St.d Cm.d
  simp only at e1 e2
  change f__law_filled _ = .ok false (flD (flM s rs t c)) [] at hf
  generalize flM s rs t c = q at *
  generalize ((t.line.length : Int) + c.gs.length - (hereM s t.line c.gs).length) = A1 at *
  generalize (t.singles + c.n - waitM s t.singles c.n) = A2 at *
  unfold flD dnsD at *
  unfold Su.d at *
  simp_arith [e1, hrn, e2, hat, hf, eqD_nil, intL_len, hpos]
  unfold lostM
  by_cases h1 : q.line = []
  · by_cases h2 : 0 < q.singles
    · simp [h1, h2, endRet, iosOf, fin]
    · simp [h1, h2, endRet, iosOf, fin]
  · simp [h1, endRet, iosOf, fin]
theorem law_run2_ok (s : Su) (h : s.ok) (rs : List Rr) (hr : RuOk rs) (t : St) (ht : t.ok s) (cs : List Cm) (hc : ∀ c ∈ cs, c.ok s) (hl : cs.length ≤ 16777216) : f__law_run__2 [s.d, ruD rs, t.d, rowD cs] = .ok false (.tuple [.list ((chsM s rs t cs).map Ch.d), (endM s rs t cs).d]) [] := by
  have key := forL_P (body := evalSs fuel x__law_run__2_0) (tg := .nm 5) (fg := [5, 6]) (fun a : List Ch × St => [.sh s.d, .sh (ruD rs), .sh a.2.d, .sh (rowD cs), .ow (.list (a.1.map Ch.d)), .un, .un]) Cm.d
    (fun a rest => a.2.ok s ∧ (∀ c ∈ rest, c.ok s) ∧ a.1 ++ chsM s rs a.2 rest = chsM s rs t cs ∧ endM s rs a.2 rest = endM s rs t cs)
    (fun o => o = .next [.sh s.d, .sh (ruD rs), .sh (endM s rs t cs).d, .sh (rowD cs), .ow (.list ((chsM s rs t cs).map Ch.d)), .un, .un])
    (fun a c rest ⟨h1, h2, h3, h4⟩ => by
      have hco := h2 c List.mem_cons_self
      have hb := law_beat2_ok s h rs (by have := hr.1; omega) a.2 h1 c (by have := cm_len s h hco; omega) (by have := hco.n1; have := h.c2; omega)
      have hlen : Sm (a.1.length + 1) := by
        have := congrArg List.length h3
        rw [List.length_append, chsM_len, chsM_len, List.length_cons] at this
        unfold Sm
        omega
      refine .inl ⟨(a.1 ++ [(beatM s rs a.2 c).1], (beatM s rs a.2 c).2), ?_, beat_keeps s h rs hr.2 _ h1 c hco, fun x hx => h2 x (List.mem_cons_of_mem _ hx), ?_, h4⟩
      · unfold x__law_run__2_0
        simp_arith [hb, List.length_map, hlen, List.map_append, List.map_cons, List.map_nil]
      · rw [← h3]; simp [chsM])
    (fun a ⟨h1, h2, h3, h4⟩ => by
      rw [← h4, ← h3]
      simp [chsM, endM]) cs ([], t) [.sh s.d, .sh (ruD rs), .sh t.d, .sh (rowD cs), .ow (.list []), .un, .un] (by simp_arith) ⟨ht, hc, rfl, rfl⟩
  unfold f__law_run__2 c__law_run__2 x__law_run__2_1
  unfold rowD at *
  simp_arith [key]
end
end Pg

end

-- MRun2
section
/-! MRun2: what chairs hold; parts; comparisons of chairs and states. -/
namespace Pg
open PySem L2 Ev
noncomputable section
local macro_rules | `(tactic| simp_arith [$ls,*]) => `(tactic| simp (config := { decide := false }) only [run_fin, Def.start, parSl, Option.map_some, List.replicate, List.cons_append, List.nil_append, List.append_nil, evalSs, evalS, evalE, ↓turn_def, ↓wturn_def, cl_next, cl_cnt, cl_brk, cl_ret, cl_exc, cl_bad, cl_ite, ↓lcC_def, evalEs, evalB, evalAs, evalT, evalTs, evalO, evalI, evalC, bind_ok', bind_bad', bind_exc', bind_ite, out_ok', out_bad', out_exc', out_ite, seq_next, seq_ret, seq_brk, seq_cnt, seq_exc, seq_bad, seq_ite, fin_next, fin_ret, fin_bad, fin_exc, fin_ite, nextO, op1, op2, ↓op2b_def, opN, giveT, getAll, Tm.get, Tm.esc, slot, Sl.get, share, take, takeAll, mkT, truOf, truD, cmpB, cmpD, ordD, binD, negD, notD, idxD, slcD, revD, biD, isiD, isD, isNone, ↓lcT_def, onTg, clr, rst, Res.noExc, List.map_cons, List.map_nil, List.all_cons, List.all_nil, plainAt, Sl.plain, Bool.and_true, Bool.and_self, tgIx, tgsIx, itemsOf, asgS, asgTg, asgTgs, Sl.opt, iosOf, endRet, doCall, doCallN, doCallB, isScal, lsetD, arGet, arIos, putIos, putIo, chgI, chgE, setAt, appAt, extAt, ownL, newL, newT, exAt, setX, noEx, Sl.notEx, evalHs, popE, popIx, augD, parS, eqD_int, eqD_str, at0, at1, at2, at3, at4, at5, w_group_group, w_group_single, w_group_part, w_group_go, w_single_group, w_single_single, w_single_part, w_single_go, w_part_group, w_part_single, w_part_part, w_part_go, w_go_group, w_go_single, w_go_part, w_go_go, sm0, sm1, sm2, sm3, sm4, sm5, sm6, sm7, sm8, sm9, sm10, sm11, sm12, sm13, sm14, sm15, sm16, sm17, sm18, sm19, sm20, sm21, sm22, sm23, sm24, sm25, sm26, sm27, sm28, sm29, sm30, sm31, sm32, sm33, sm34, sm35, sm36, sm37, sm38, sm39, sm40, List.getElem?_cons_zero, List.getElem?_cons_succ, List.set_cons_zero, List.set_cons_succ, List.nodup_nil, if_true, if_false, Bool.not_true, Bool.not_false, ↓reduceIte, Bool.false_eq_true, decide_eq_true_eq, List.nodup_cons, List.not_mem_nil, not_false_eq_true, and_self, true_and, and_true, Option.bind_some, Option.isSome_some, Option.getD_some, reduceCtorEq, decide_true, decide_false, Int.reduceLE, Int.reduceLT, Int.reduceEq, Int.reduceNe, Int.reduceAdd, Int.reduceSub, Int.reduceNeg, Nat.reduceAdd, Nat.reduceLeDiff, Int.cast_ofNat_Int, eq_self, List.length_cons, List.length_nil, Nat.zero_add, $ls,*])
local macro_rules | `(tactic| simp_arith) => `(tactic| simp (config := { decide := false }) only [run_fin, Def.start, parSl, Option.map_some, List.replicate, List.cons_append, List.nil_append, List.append_nil, evalSs, evalS, evalE, ↓turn_def, ↓wturn_def, cl_next, cl_cnt, cl_brk, cl_ret, cl_exc, cl_bad, cl_ite, ↓lcC_def, evalEs, evalB, evalAs, evalT, evalTs, evalO, evalI, evalC, bind_ok', bind_bad', bind_exc', bind_ite, out_ok', out_bad', out_exc', out_ite, seq_next, seq_ret, seq_brk, seq_cnt, seq_exc, seq_bad, seq_ite, fin_next, fin_ret, fin_bad, fin_exc, fin_ite, nextO, op1, op2, ↓op2b_def, opN, giveT, getAll, Tm.get, Tm.esc, slot, Sl.get, share, take, takeAll, mkT, truOf, truD, cmpB, cmpD, ordD, binD, negD, notD, idxD, slcD, revD, biD, isiD, isD, isNone, ↓lcT_def, onTg, clr, rst, Res.noExc, List.map_cons, List.map_nil, List.all_cons, List.all_nil, plainAt, Sl.plain, Bool.and_true, Bool.and_self, tgIx, tgsIx, itemsOf, asgS, asgTg, asgTgs, Sl.opt, iosOf, endRet, doCall, doCallN, doCallB, isScal, lsetD, arGet, arIos, putIos, putIo, chgI, chgE, setAt, appAt, extAt, ownL, newL, newT, exAt, setX, noEx, Sl.notEx, evalHs, popE, popIx, augD, parS, eqD_int, eqD_str, at0, at1, at2, at3, at4, at5, w_group_group, w_group_single, w_group_part, w_group_go, w_single_group, w_single_single, w_single_part, w_single_go, w_part_group, w_part_single, w_part_part, w_part_go, w_go_group, w_go_single, w_go_part, w_go_go, sm0, sm1, sm2, sm3, sm4, sm5, sm6, sm7, sm8, sm9, sm10, sm11, sm12, sm13, sm14, sm15, sm16, sm17, sm18, sm19, sm20, sm21, sm22, sm23, sm24, sm25, sm26, sm27, sm28, sm29, sm30, sm31, sm32, sm33, sm34, sm35, sm36, sm37, sm38, sm39, sm40, List.getElem?_cons_zero, List.getElem?_cons_succ, List.set_cons_zero, List.set_cons_succ, List.nodup_nil, if_true, if_false, Bool.not_true, Bool.not_false, ↓reduceIte, Bool.false_eq_true, decide_eq_true_eq, List.nodup_cons, List.not_mem_nil, not_false_eq_true, and_self, true_and, and_true, Option.bind_some, Option.isSome_some, Option.getD_some, reduceCtorEq, decide_true, decide_false, Int.reduceLE, Int.reduceLT, Int.reduceEq, Int.reduceNe, Int.reduceAdd, Int.reduceSub, Int.reduceNeg, Nat.reduceAdd, Nat.reduceLeDiff, Int.cast_ofNat_Int, eq_self, List.length_cons, List.length_nil, Nat.zero_add])
theorem dn_pl (d : Dn) : pl 3 (dnD d) = true := by
  unfold dnD
  simp only [pl_tup, pls_cons, pls_nil, pl_int, pl_str, Bool.and_true]
  cases d.1 <;> decide +kernel
theorem ch_pl (c : Ch) : pl 6 c.d = true := by
  unfold Ch.d dnsD
  simp only [pl_tup, pls_cons, pls_nil, pl_int, Bool.and_true]
  exact pls_map fun d _ => by
    unfold dnD
    simp only [pl_tup, pls_cons, pls_nil, pl_int, pl_str, Bool.and_true]
    cases d.1 <;> decide +kernel
theorem st_pl (t : St) : pl 6 t.d = true := by
  unfold St.d
  simp only [pl_tup, pls_cons, pls_nil, pl_int, pls_intL, Bool.and_true]
theorem eqD_same {d : D} (n : Nat) (h : pl n d = true) (hn : n ≤ 64 := by omega) : eqD d d = some true := by
  rw [eqD_pl n h h hn]; simp
theorem eqD_chs (cs : List Ch) : eqD (.list (cs.map Ch.d)) (.list (cs.map Ch.d)) = some true := eqD_same 7 (by rw [pl_lst]; exact pls_map fun c _ => ch_pl c)
theorem eqD_st (t : St) : eqD t.d t.d = some true := eqD_same 6 (st_pl t)
theorem fl_len (s : Su) (h : s.ok) (rs : List Rr) (t : St) (ht : t.ok s) (c : Cm) : (beatM s rs t c).1.deeds.length ≤ 5 := by
  have hsr := seats_rg s h t.turn ht.tt.1 ht.tt.2
  exact flen rs 5 _ _ _ _ (by omega)
/-- each chair is that of a beat of a state -/
theorem chs_all (s : Su) (h : s.ok) (rs : List Rr) (hr : ∀ r ∈ rs, r.ok) : ∀ (cs : List Cm) (t : St), t.ok s → (∀ c ∈ cs, c.ok s) → ∀ ch ∈ chsM s rs t cs, ∃ t' c, t'.ok s ∧ c ∈ cs ∧ ch = (beatM s rs t' c).1
  | [], _, _, _, ch, hm => by cases hm
  | c :: cs, t, ht, hc, ch, hm => by
    rcases List.mem_cons.mp hm with q | q
    · exact ⟨t, c, ht, List.mem_cons_self, q⟩
    · obtain ⟨t', c', h1, h2, h3⟩ := chs_all s h rs hr cs _ (beat_keeps s h rs hr t ht c (hc c List.mem_cons_self)) (fun x hx => hc x (List.mem_cons_of_mem _ hx)) ch q
      exact ⟨t', c', h1, List.mem_cons_of_mem _ h2, h3⟩
theorem chs_deeds (s : Su) (h : s.ok) (rs : List Rr) (hr : ∀ r ∈ rs, r.ok) (cs : List Cm) (t : St) (ht : t.ok s) (hc : ∀ c ∈ cs, c.ok s) : ∀ ch ∈ chsM s rs t cs, ch.deeds.length ≤ 5 := fun ch hm => by
  obtain ⟨t', c, h1, _, rfl⟩ := chs_all s h rs hr cs t ht hc ch hm
  exact fl_len s h rs t' h1 c
theorem flat_len {α β : Type} (f : α → List β) (k : Nat) : ∀ xs : List α, (∀ x ∈ xs, (f x).length ≤ k) → (xs.flatMap f).length ≤ k * xs.length
  | [], _ => by simp
  | x :: xs, h => by
    rw [List.flatMap_cons, List.length_append, List.length_cons, Nat.mul_succ]
    have := flat_len f k xs fun y hy => h y (List.mem_cons_of_mem _ hy)
    have := h x List.mem_cons_self
    omega
/-- the parts of a chair -/
def Ch.parts (c : Ch) : List Dn := c.deeds.filter fun d => d.1 = .part
def nParts (cs : List Ch) : Int := (cs.map fun c => (c.parts.length : Int)).sum
theorem fm_filter {α β : Type} (p : α → Bool) (f : α → β) (l : List α) : l.filterMap (fun x => if p x then some (f x) else none) = (l.filter p).map f := by
  induction l with
  | nil => rfl
  | cons x xs ih => cases h : p x <;> simp [h, ih]
theorem flat_parts_len (cs : List Ch) : ((cs.flatMap fun c => c.parts.map dnD).length : Int) = nParts cs := by
  unfold nParts
  induction cs with
  | nil => rfl
  | cons c cs ih =>
    rw [List.flatMap_cons, List.length_append, List.length_map, List.map_cons, List.sum_cons, ← ih]
    push_cast
    rfl
section
variable (s : Su) (h : s.ok) (rs : List Rr) (hr : RuOk rs) (cs : List Cm) (hc : ∀ c ∈ cs, c.ok s) (hl : cs.length ≤ 300)
include h hr hc hl
theorem parted_by_ok : f_parted_by [s.d, ruD rs, rowD cs] = .ok false (.int (nParts (chsM s rs st0 cs))) [] := by
  have x : evalE x_parted_by_0 [.sh s.d, .sh (ruD rs), .sh (rowD cs), .sh (.list ((chsM s rs st0 cs).map Ch.d)), .un, .un] = .ok (.ow (.list ((chsM s rs st0 cs).flatMap fun c => c.parts.map dnD))) [.sh s.d, .sh (ruD rs), .sh (rowD cs), .sh (.list ((chsM s rs st0 cs).map Ch.d)), .un, .un] := by
    unfold x_parted_by_0
    have hfl := flat_len Ch.deeds 5 (chsM s rs st0 cs) (chs_deeds s h rs hr.2 cs st0 (st0_ok s h) hc)
    rw [chsM_len] at hfl
    rw [lc2_fm (ρ1 := [.sh s.d, .sh (ruD rs), .sh (rowD cs), .sh (.list ((chsM s rs st0 cs).map Ch.d)), .un, .un]) Ch.d (chsM s rs st0 cs) dnD Ch.deeds (fun _ d => if d.1 = .part then some (dnD d) else none) (by simp_arith) (by simp_arith) (by omega) (by simp [tgIx]) fun c _ => ⟨[.sh s.d, .sh (ruD rs), .sh (rowD cs), .sh (.list ((chsM s rs st0 cs).map Ch.d)), .sh c.d, .un], by simp_arith, by simp_arith [Ch.d, dnsD], by simp_arith, fun d _ => ?_⟩]
    · congr 4
      funext c
      have := fm_filter (fun d : Dn => decide (d.1 = .part)) dnD c.deeds
      simp only [decide_eq_true_eq] at this
      exact this
    · simp_arith [dnD, part_beq]
      by_cases hp : d.1 = .part
      · simp [hp]
      · simp [hp]
  unfold f_parted_by c_parted_by
  have hn := flat_parts_len (chsM s rs st0 cs)
  simp_arith [chairs_of_ok s h rs hr cs hc hl, x, hn]
end
/-- the deeds of a chair that part, as the laws count them -/
theorem eqD_strs (x y : Str) : eqD (.str x) (.str y) = some (x == y) := rfl
theorem whole_ok (n lo hi : Int) : f__law_whole [.int n, .int lo, .int hi] = .ok false (.bool (decide (lo ≤ n ∧ n ≤ hi))) [] := by
  unfold f__law_whole c__law_whole
  simp_arith
  by_cases h : lo ≤ n <;> simp [h, endRet, iosOf]
/-- turns, one for each beat -/
theorem endM_turn (s : Su) (h : s.ok) (rs : List Rr) : ∀ (cs : List Cm) (t : St), 0 ≤ t.turn → (endM s rs t cs).turn % s.seats.length = (t.turn + cs.length) % s.seats.length
  | [], t, _ => by simp [endM]
  | c :: cs, t, h0 => by
    have hpos : (0 : Int) < (s.seats.length : Int) := by have := h.s1; omega
    show (endM s rs (beatM s rs t c).2 cs).turn % _ = _
    rw [endM_turn s h rs cs (beatM s rs t c).2 (Int.emod_nonneg _ (by omega))]
    show ((t.turn + 1) % (s.seats.length : Int) + cs.length) % _ = _
    rw [Int.emod_add_emod, List.length_cons]
    congr 1
    push_cast
    omega
theorem end_turn (s : Su) (h : s.ok) (rs : List Rr) (hr : ∀ r ∈ rs, r.ok) (cs : List Cm) (hc : ∀ c ∈ cs, c.ok s) : (endM s rs st0 cs).turn = (cs.length : Int) % s.seats.length := by
  have h1 := (endM_ok s h rs hr cs st0 (st0_ok s h) hc).tt
  have h2 := endM_turn s h rs cs st0 (by decide)
  rw [Int.emod_eq_of_lt h1.1 h1.2] at h2
  rw [h2]
  show ((0 : Int) + cs.length) % _ = _
  rw [Int.zero_add]
theorem chsM_get (s : Su) (rs : List Rr) : ∀ (cs : List Cm) (t : St) (k : Nat) (hk : k < cs.length), (chsM s rs t cs)[k]? = some (beatM s rs (endM s rs t (cs.take k)) cs[k]).1
  | [], _, k, hk => absurd hk (by simp)
  | c :: cs, t, 0, _ => rfl
  | c :: cs, t, k + 1, hk => by
    show (chsM s rs _ cs)[k]? = _
    rw [chsM_get s rs cs _ k (by simpa using hk)]
    rfl
theorem endM_snoc (s : Su) (rs : List Rr) (cs : List Cm) (t : St) (k : Nat) (hk : k < cs.length) : endM s rs t (cs.take (k + 1)) = (beatM s rs (endM s rs t (cs.take k)) cs[k]).2 := by
  rw [← List.take_append_getElem hk, endM_app]
  rfl
instance : Inhabited Cm := ⟨⟨[], 0⟩⟩
instance : Inhabited Ch := ⟨⟨[], 0, 0, 0, 0⟩⟩
theorem at_row (cs : List Cm) (k : Nat) (hk : k < cs.length) : atI (cs.map Cm.d) (k : Int) = some (cs[k]'hk).d := by
  rw [atI_nat _ _ (by rw [List.length_map]; exact hk), List.getElem?_map, List.getElem?_eq_getElem hk]
  rfl
end
end Pg

end

-- MAny
section
/-! MAny: what the program says of any object. -/
namespace Pg
open PySem L2 Ev
noncomputable section
local macro_rules | `(tactic| simp_arith [$ls,*]) => `(tactic| simp (config := { decide := false }) only [run_fin, Def.start, parSl, Option.map_some, List.replicate, List.cons_append, List.nil_append, List.append_nil, evalSs, evalS, evalE, ↓turn_def, ↓wturn_def, cl_next, cl_cnt, cl_brk, cl_ret, cl_exc, cl_bad, cl_ite, ↓lcC_def, evalEs, evalB, evalAs, evalT, evalTs, evalO, evalI, evalC, bind_ok', bind_bad', bind_exc', bind_ite, out_ok', out_bad', out_exc', out_ite, seq_next, seq_ret, seq_brk, seq_cnt, seq_exc, seq_bad, seq_ite, fin_next, fin_ret, fin_bad, fin_exc, fin_ite, nextO, op1, op2, ↓op2b_def, opN, giveT, getAll, Tm.get, Tm.esc, slot, Sl.get, share, take, takeAll, mkT, truOf, truD, cmpB, cmpD, ordD, binD, negD, notD, idxD, slcD, revD, biD, isiD, isD, isNone, ↓lcT_def, onTg, clr, rst, Res.noExc, List.map_cons, List.map_nil, List.all_cons, List.all_nil, plainAt, Sl.plain, Bool.and_true, Bool.and_self, tgIx, tgsIx, itemsOf, asgS, asgTg, asgTgs, Sl.opt, iosOf, endRet, doCall, doCallN, doCallB, isScal, lsetD, arGet, arIos, putIos, putIo, chgI, chgE, setAt, appAt, extAt, ownL, newL, newT, exAt, setX, noEx, Sl.notEx, evalHs, popE, popIx, augD, parS, eqD_int, eqD_str, at0, at1, at2, at3, at4, at5, w_group_group, w_group_single, w_group_part, w_group_go, w_single_group, w_single_single, w_single_part, w_single_go, w_part_group, w_part_single, w_part_part, w_part_go, w_go_group, w_go_single, w_go_part, w_go_go, sm0, sm1, sm2, sm3, sm4, sm5, sm6, sm7, sm8, sm9, sm10, sm11, sm12, sm13, sm14, sm15, sm16, sm17, sm18, sm19, sm20, sm21, sm22, sm23, sm24, sm25, sm26, sm27, sm28, sm29, sm30, sm31, sm32, sm33, sm34, sm35, sm36, sm37, sm38, sm39, sm40, List.getElem?_cons_zero, List.getElem?_cons_succ, List.set_cons_zero, List.set_cons_succ, List.nodup_nil, if_true, if_false, Bool.not_true, Bool.not_false, ↓reduceIte, Bool.false_eq_true, decide_eq_true_eq, List.nodup_cons, List.not_mem_nil, not_false_eq_true, and_self, true_and, and_true, Option.bind_some, Option.isSome_some, Option.getD_some, reduceCtorEq, decide_true, decide_false, Int.reduceLE, Int.reduceLT, Int.reduceEq, Int.reduceNe, Int.reduceAdd, Int.reduceSub, Int.reduceNeg, Nat.reduceAdd, Nat.reduceLeDiff, Int.cast_ofNat_Int, eq_self, List.length_cons, List.length_nil, Nat.zero_add, $ls,*])
local macro_rules | `(tactic| simp_arith) => `(tactic| simp (config := { decide := false }) only [run_fin, Def.start, parSl, Option.map_some, List.replicate, List.cons_append, List.nil_append, List.append_nil, evalSs, evalS, evalE, ↓turn_def, ↓wturn_def, cl_next, cl_cnt, cl_brk, cl_ret, cl_exc, cl_bad, cl_ite, ↓lcC_def, evalEs, evalB, evalAs, evalT, evalTs, evalO, evalI, evalC, bind_ok', bind_bad', bind_exc', bind_ite, out_ok', out_bad', out_exc', out_ite, seq_next, seq_ret, seq_brk, seq_cnt, seq_exc, seq_bad, seq_ite, fin_next, fin_ret, fin_bad, fin_exc, fin_ite, nextO, op1, op2, ↓op2b_def, opN, giveT, getAll, Tm.get, Tm.esc, slot, Sl.get, share, take, takeAll, mkT, truOf, truD, cmpB, cmpD, ordD, binD, negD, notD, idxD, slcD, revD, biD, isiD, isD, isNone, ↓lcT_def, onTg, clr, rst, Res.noExc, List.map_cons, List.map_nil, List.all_cons, List.all_nil, plainAt, Sl.plain, Bool.and_true, Bool.and_self, tgIx, tgsIx, itemsOf, asgS, asgTg, asgTgs, Sl.opt, iosOf, endRet, doCall, doCallN, doCallB, isScal, lsetD, arGet, arIos, putIos, putIo, chgI, chgE, setAt, appAt, extAt, ownL, newL, newT, exAt, setX, noEx, Sl.notEx, evalHs, popE, popIx, augD, parS, eqD_int, eqD_str, at0, at1, at2, at3, at4, at5, w_group_group, w_group_single, w_group_part, w_group_go, w_single_group, w_single_single, w_single_part, w_single_go, w_part_group, w_part_single, w_part_part, w_part_go, w_go_group, w_go_single, w_go_part, w_go_go, sm0, sm1, sm2, sm3, sm4, sm5, sm6, sm7, sm8, sm9, sm10, sm11, sm12, sm13, sm14, sm15, sm16, sm17, sm18, sm19, sm20, sm21, sm22, sm23, sm24, sm25, sm26, sm27, sm28, sm29, sm30, sm31, sm32, sm33, sm34, sm35, sm36, sm37, sm38, sm39, sm40, List.getElem?_cons_zero, List.getElem?_cons_succ, List.set_cons_zero, List.set_cons_succ, List.nodup_nil, if_true, if_false, Bool.not_true, Bool.not_false, ↓reduceIte, Bool.false_eq_true, decide_eq_true_eq, List.nodup_cons, List.not_mem_nil, not_false_eq_true, and_self, true_and, and_true, Option.bind_some, Option.isSome_some, Option.getD_some, reduceCtorEq, decide_true, decide_false, Int.reduceLE, Int.reduceLT, Int.reduceEq, Int.reduceNe, Int.reduceAdd, Int.reduceSub, Int.reduceNeg, Nat.reduceAdd, Nat.reduceLeDiff, Int.cast_ofNat_Int, eq_self, List.length_cons, List.length_nil, Nat.zero_add])
def isInt : D → Bool
  | .int _ => true
  | _ => false
def num (lo hi : Int) : D → Bool
  | .int i => decide (lo ≤ i ∧ i ≤ hi)
  | _ => false
theorem is_integer_any (d : D) : f_is_integer [d] = .ok false (.bool (isInt d)) [] := by
  unfold f_is_integer c_is_integer
  cases d <;> simp_arith <;> rfl
theorem is_number_any (d : D) (lo hi : Int) : f_is_number [d, .int lo, .int hi] = .ok false (.bool (num lo hi d)) [] := by
  cases d with
  | int i => exact is_number_int i lo hi
  | _ =>
    unfold f_is_number c_is_number
    simp_arith [is_integer_any, isInt]
    rfl
theorem law_whole_any (d : D) (lo hi : Int) : f__law_whole [d, .int lo, .int hi] = .ok false (.bool (num lo hi d)) [] := by
  unfold f__law_whole c__law_whole
  cases d with
  | int i =>
    simp_arith [num]
    by_cases h : lo ≤ i <;> simp [h, endRet, iosOf]
  | _ => simp_arith <;> rfl
theorem num_int {lo hi : Int} {d : D} (h : num lo hi d = true) : ∃ i, d = .int i ∧ lo ≤ i ∧ i ≤ hi := by
  cases d with
  | int i => exact ⟨i, rfl, of_decide_eq_true h⟩
  | _ => cases h
theorem nums_ints {lo hi : Int} : ∀ {ds : List D}, ds.all (num lo hi) = true → ∃ ns : List Int, ds = intL ns ∧ ∀ n ∈ ns, lo ≤ n ∧ n ≤ hi
  | [], _ => ⟨[], rfl, fun n h => by cases h⟩
  | d :: ds, h => by
    rw [List.all_cons, Bool.and_eq_true] at h
    obtain ⟨i, rfl, hi⟩ := num_int h.1
    obtain ⟨ns, rfl, hn⟩ := nums_ints h.2
    refine ⟨i :: ns, rfl, fun n hm => ?_⟩
    rcases List.mem_cons.mp hm with rfl | hm
    · exact hi
    · exact hn n hm
/-- a tuple of so many numbers -/
def areN (least most lo hi : Int) : D → Bool
  | .tuple ds => decide (least ≤ (ds.length : Int) ∧ (ds.length : Int) ≤ most) && ds.all (num lo hi)
  | _ => false
theorem x_are_numbers_any (ds : List D) (a b : Sl) (lo hi : Int) (hl : ds.length ≤ 16777216) : evalE x_are_numbers_0 [.sh (.tuple ds), a, b, .sh (.int lo), .sh (.int hi), .un] =
    .ok (.ow (.list (ds.map fun n => .bool (num lo hi n)))) [.sh (.tuple ds), a, b, .sh (.int lo), .sh (.int hi), .un] := by
  unfold x_are_numbers_0
  exact lc_map' (fun d : D => d) ds _ (by simp_arith [List.map_id']) (by simp_arith) hl fun n _ => by
    simp_arith [is_number_any]
theorem are_numbers_any (d : D) (least most lo hi : Int) (hm : most ≤ 1000) : f_are_numbers [d, .int least, .int most, .int lo, .int hi] = .ok false (.bool (areN least most lo hi d)) [] := by
  unfold f_are_numbers c_are_numbers
  cases d with
  | tuple ds =>
    by_cases h1 : least ≤ (ds.length : Int)
    · by_cases h2 : (ds.length : Int) ≤ most
      · have x := x_are_numbers_any ds (.sh (.int least)) (.sh (.int most)) lo hi (by omega)
        generalize hN : (ds.length : Int) = N at *
        simp_arith [hN, h1, h2, x, boolsOf_map, all_map_id, areN]
        rfl
      · generalize hN : (ds.length : Int) = N at *
        simp_arith [hN, h1, h2, areN]
        simp [endRet, iosOf]
    · generalize hN : (ds.length : Int) = N at *
      simp_arith [hN, h1, areN]
      simp [endRet, iosOf]
  | _ => simp_arith <;> rfl
theorem areN_iff {least most lo hi : Int} {d : D} : areN least most lo hi d = true ↔ ∃ ns : List Int, d = .tuple (intL ns) ∧ least ≤ ns.length ∧ (ns.length : Int) ≤ most ∧ ∀ n ∈ ns, lo ≤ n ∧ n ≤ hi := by
  constructor
  · intro h
    cases d with
    | tuple ds =>
      have h' : (decide (least ≤ (ds.length : Int) ∧ (ds.length : Int) ≤ most) && ds.all (num lo hi)) = true := h
      rw [Bool.and_eq_true, decide_eq_true_eq] at h'
      obtain ⟨ns, rfl, hn⟩ := nums_ints h'.2
      rw [intL_len] at h'
      exact ⟨ns, rfl, h'.1.1, h'.1.2, hn⟩
    | _ => cases h
  · rintro ⟨ns, rfl, h1, h2, h3⟩
    show (decide (least ≤ ((intL ns).length : Int) ∧ ((intL ns).length : Int) ≤ most) && (intL ns).all (num lo hi)) = true
    rw [Bool.and_eq_true, decide_eq_true_eq, intL_len]
    refine ⟨⟨h1, h2⟩, List.all_eq_true.mpr fun d hd => ?_⟩
    obtain ⟨n, hn, rfl⟩ := List.mem_map.mp hd
    exact decide_eq_true (h3 n hn)
/-! ### comers -/
def isSz (s : Su) : D → Bool
  | .int n => decide (n ∈ s.sizes)
  | _ => false
theorem is_size_any (s : Su) (h : s.ok) (d : D) : f_is_size [s.d, d] = .ok false (.bool (isSz s d)) [] := by
  unfold f_is_size c_is_size Su.d
  cases d with
  | int n =>
    have hi := (inD_pl (x := .int n) (ds := intL s.sizes) 5 pl_int pls_intL).2
    simp only [mem_intL] at hi
    by_cases h1 : 1 ≤ n ∧ n ≤ 5
    · simp_arith [is_number_int, h1, hi, isSz]
    · have h2 : n ∉ s.sizes := fun z => h1 (h.z3 n z)
      simp_arith [is_number_int, h1, isSz, h2]
  | _ => simp_arith [is_number_any, num] <;> rfl
def isCm (s : Su) : D → Bool
  | .tuple [.tuple gs, n] => decide ((gs.length : Int) ≤ s.c1) && gs.all (isSz s) && num 0 s.c2 n
  | _ => false
theorem szs_ints {s : Su} : ∀ {ds : List D}, ds.all (isSz s) = true → ∃ ns : List Int, ds = intL ns ∧ ∀ n ∈ ns, n ∈ s.sizes
  | [], _ => ⟨[], rfl, fun n h => by cases h⟩
  | d :: ds, h => by
    rw [List.all_cons, Bool.and_eq_true] at h
    obtain ⟨ns, rfl, hn⟩ := szs_ints h.2
    cases d with
    | int i =>
      refine ⟨i :: ns, rfl, fun n hm => ?_⟩
      rcases List.mem_cons.mp hm with rfl | hm
      · exact of_decide_eq_true h.1
      · exact hn n hm
    | _ => exact absurd h.1 (by simp [isSz])
theorem isCm_iff {s : Su} {d : D} : isCm s d = true ↔ ∃ c : Cm, d = c.d ∧ c.ok s := by
  constructor
  · intro h
    unfold isCm at h
    split at h
    · rename_i gs n
      rw [Bool.and_eq_true, Bool.and_eq_true, decide_eq_true_eq] at h
      obtain ⟨⟨h1, h2⟩, h3⟩ := h
      obtain ⟨ns, rfl, hn⟩ := szs_ints h2
      obtain ⟨i, rfl, hi⟩ := num_int h3
      rw [intL_len] at h1
      exact ⟨⟨ns, i⟩, rfl, h1, hn, hi⟩
    · cases h
  · rintro ⟨c, rfl, h1, h2, h3⟩
    show (decide (((intL c.gs).length : Int) ≤ s.c1) && (intL c.gs).all (isSz s) && num 0 s.c2 (.int c.n)) = true
    rw [Bool.and_eq_true, Bool.and_eq_true, decide_eq_true_eq, intL_len]
    refine ⟨⟨h1, List.all_eq_true.mpr fun d hd => ?_⟩, decide_eq_true h3⟩
    obtain ⟨n, hn, rfl⟩ := List.mem_map.mp hd
    exact decide_eq_true (h2 n hn)
theorem x_is_comers_any (s : Su) (h : s.ok) (ds : List D) (hl : ds.length ≤ 1000) (a b : Sl) : evalE x_is_comers_0 [.sh s.d, a, .sh (.tuple ds), b, .un] =
    .ok (.ow (.list (ds.map fun d => .bool (isSz s d)))) [.sh s.d, a, .sh (.tuple ds), b, .un] := by
  unfold x_is_comers_0
  exact lc_map' (fun d : D => d) ds _ (by simp_arith [List.map_id']) (by simp_arith) (by omega) fun n hn => by
    simp_arith [is_size_any s h]
theorem isCm_len {s : Su} {ds : List D} (h : ds.length ≠ 2) : isCm s (.tuple ds) = false := by
  unfold isCm
  split
  · rename_i e
    cases e
    exact absurd rfl h
  · rfl
theorem is_comers_any (s : Su) (h : s.ok) (d : D) : f_is_comers [s.d, d] = .ok false (.bool (isCm s d)) [] := by
  unfold f_is_comers c_is_comers
  have hc := h.c1
  cases d with
  | tuple ds =>
    match ds with
    | [] => simp_arith [isCm_len (s := s) (ds := []) (by decide)]
    | [x] => simp_arith [isCm_len (s := s) (ds := [x]) (by simp)]
    | a :: b :: c :: r =>
      have e : ¬ ((r.length + 1 + 1 + 1 : Nat) : Int) = 2 := by omega
      have e3 := isCm_len (s := s) (ds := a :: b :: c :: r) (by simp)
      simp_arith [e, e3]
    | [g, n] =>
      cases g with
      | tuple gs =>
        by_cases h1 : (gs.length : Int) ≤ s.c1
        · have x := x_is_comers_any s h gs (by omega) (.sh (.tuple [.tuple gs, n])) (.sh n)
          have h2 : ¬ (s.c1 < (gs.length : Int)) := by omega
          unfold Su.d at *
          have e2 : ((0 + 1 + 1 : Nat) : Int) = 2 := rfl
          cases h4 : gs.all (isSz s) with
          | false =>
            simp_arith [h2, x, boolsOf_map, all_map_id, h4]
            simp [isCm, h4]
          | true =>
            simp_arith [h2, x, boolsOf_map, all_map_id, h4, is_number_any]
            simp [isCm, h4, h1]
        · have h2 : s.c1 < (gs.length : Int) := by omega
          unfold Su.d
          simp_arith [h2]
          simp [isCm, h1]
      | _ => simp_arith <;> rfl
  | _ => simp_arith <;> rfl
/-! ### rows -/
/-- the first fault -/
def firstBad (s : Su) : Nat → List D → Option Nat
  | _, [] => none
  | k, d :: ds => if isCm s d then firstBad s (k + 1) ds else some k
def faultM (s : Su) (m : Int) : D → Option Int
  | .list ds => match firstBad s 0 (ds.take m.toNat) with
    | some k => some k
    | none => if m < (ds.length : Int) then some m else none
  | _ => some (-1)
def optI : Option Int → D
  | some i => .int i
  | none => .none
theorem row_fault_any (s : Su) (h : s.ok) (d : D) (m : Int) (h0 : 0 ≤ m) : f_row_fault [s.d, d, .int m] = .ok false (optI (faultM s m d)) [] := by
  unfold f_row_fault c_row_fault
  cases d with
  | list ds =>
    have key : ∀ (es : List D) (k : Nat), ∃ p q : Sl, forL (evalSs fuel x_row_fault_0) (.tup [.nm 3, .nm 4]) [3, 4] (enumFrom k es) [.sh s.d, .sh (.list ds), .sh (.int m), .un, .un] = match firstBad s k es with
        | some j => .ret (.sh (.int (j : Nat))) [.sh s.d, .sh (.list ds), .sh (.int m), p, q]
        | none => .next [.sh s.d, .sh (.list ds), .sh (.int m), .un, .un] := by
      intro es
      induction es with
      | nil =>
        intro k
        refine ⟨.un, .un, ?_⟩
        unfold enumFrom
        rw [forL_nil]
        rfl
      | cons e es ih =>
        intro k
        obtain ⟨p, q, ih⟩ := ih (k + 1)
        have hb := is_comers_any s h e
        have hc0 : clr [Sl.sh s.d, .sh (.list ds), .sh (.int m), .un, .un] [3, 4] = [Sl.sh s.d, .sh (.list ds), .sh (.int m), .un, .un] := rfl
        unfold enumFrom
        rw [forL_cons, hc0]
        cases hc : isCm s e with
        | true =>
          rw [hc] at hb
          have e1 : firstBad s k (e :: es) = firstBad s (k + 1) es := by
            show (if isCm s e = true then _ else _) = _
            rw [if_pos hc]
          have ht : turn (evalSs fuel x_row_fault_0) (.tup [.nm 3, .nm 4]) [3, 4] (.tuple [.int k, e]) [.sh s.d, .sh (.list ds), .sh (.int m), .un, .un] = .next [.sh s.d, .sh (.list ds), .sh (.int m), .un, .un] := by
            unfold x_row_fault_0
            simp_arith [hb]
          refine ⟨p, q, ?_⟩
          rw [e1, ← ih, ht]
        | false =>
          rw [hc] at hb
          have e1 : firstBad s k (e :: es) = some k := by
            show (if isCm s e = true then _ else _) = _
            rw [if_neg (by rw [hc]; decide)]
          have ht : turn (evalSs fuel x_row_fault_0) (.tup [.nm 3, .nm 4]) [3, 4] (.tuple [.int k, e]) [.sh s.d, .sh (.list ds), .sh (.int m), .un, .un] = .ret (.sh (.int (k : Nat))) [.sh s.d, .sh (.list ds), .sh (.int m), .sh (.int (k : Nat)), .sh e] := by
            unfold x_row_fault_0
            simp_arith [hb]
          exact ⟨_, _, by rw [e1, ht]⟩
    obtain ⟨p, q, k1⟩ := key (ds.take m.toNat) 0
    unfold x_row_fault_1 faultM
    cases hf : firstBad s 0 (ds.take m.toNat) with
    | some j =>
      rw [hf] at k1
      simp_arith [cut_to _ m h0, k1, hf, optI]
    | none =>
      rw [hf] at k1
      by_cases hm : m < (ds.length : Int)
      · simp_arith [cut_to _ m h0, k1, hm, hf, optI]
      · simp_arith [cut_to _ m h0, k1, hm, hf, optI]
  | _ => simp_arith <;> rfl
theorem firstBad_none {s : Su} : ∀ {ds : List D} {k : Nat}, firstBad s k ds = none → ∃ rs : List Cm, ds = rs.map Cm.d ∧ ∀ c ∈ rs, c.ok s
  | [], _, _ => ⟨[], rfl, fun c h => by cases h⟩
  | d :: ds, k, h => by
    unfold firstBad at h
    split at h
    · rename_i hc
      obtain ⟨c, rfl, hk⟩ := isCm_iff.mp hc
      obtain ⟨rs, rfl, hr⟩ := firstBad_none h
      refine ⟨c :: rs, rfl, fun x hx => ?_⟩
      rcases List.mem_cons.mp hx with rfl | hx
      · exact hk
      · exact hr x hx
    · cases h
theorem firstBad_ok {s : Su} : ∀ {rs : List Cm} {k : Nat}, (∀ c ∈ rs, c.ok s) → firstBad s k (rs.map Cm.d) = none
  | [], _, _ => rfl
  | c :: rs, k, h => by
    show (if isCm s c.d = true then firstBad s (k + 1) (rs.map Cm.d) else some k) = none
    rw [if_pos (isCm_iff.mpr ⟨c, rfl, h c List.mem_cons_self⟩)]
    exact firstBad_ok fun x hx => h x (List.mem_cons_of_mem _ hx)
/-- no fault: a row -/
theorem fault_none {s : Su} {m : Int} (h0 : 0 ≤ m) {d : D} (h : faultM s m d = none) : ∃ rs : List Cm, d = rowD rs ∧ (∀ c ∈ rs, c.ok s) ∧ (rs.length : Int) ≤ m := by
  unfold faultM at h
  split at h
  · rename_i ds
    split at h
    · cases h
    · rename_i hb
      split at h
      · cases h
      · rename_i hl
        rw [List.take_of_length_le (by omega)] at hb
        obtain ⟨rs, rfl, hr⟩ := firstBad_none hb
        rw [List.length_map] at hl
        exact ⟨rs, rfl, hr, by omega⟩
  · cases h
theorem fault_row {s : Su} {m : Int} (h0 : 0 ≤ m) {rs : List Cm} (hr : ∀ c ∈ rs, c.ok s) (hl : (rs.length : Int) ≤ m) : faultM s m (rowD rs) = none := by
  unfold faultM rowD
  have hm : ((rs.map Cm.d).length : Int) ≤ m := by rw [List.length_map]; exact hl
  simp only
  rw [List.take_of_length_le (by omega), firstBad_ok hr]
  simp only
  rw [if_neg (by omega)]
theorem check_row_any (s : Su) (h : s.ok) (d : D) (m : Int) (h0 : 0 ≤ m) : f_check_row [s.d, d, .int m] = match faultM s m d with
    | some p => .exc ⟨"BadRow", [("place", .int p)]⟩ []
    | none => .ok false .none [] := by
  have e := row_fault_any s h d m h0
  unfold f_check_row c_check_row
  cases hf : faultM s m d with
  | none =>
    rw [hf] at e
    simp_arith [e, optI]
  | some p =>
    rw [hf] at e
    simp_arith [e, optI]
end
end Pg

end

-- MOdd
section
/-! MOdd: odd objects; states and standings of any object. -/
namespace Pg
open PySem L2 Ev
noncomputable section
local macro_rules | `(tactic| simp_arith [$ls,*]) => `(tactic| simp (config := { decide := false }) only [run_fin, Def.start, parSl, Option.map_some, List.replicate, List.cons_append, List.nil_append, List.append_nil, evalSs, evalS, evalE, ↓turn_def, ↓wturn_def, cl_next, cl_cnt, cl_brk, cl_ret, cl_exc, cl_bad, cl_ite, ↓lcC_def, evalEs, evalB, evalAs, evalT, evalTs, evalO, evalI, evalC, bind_ok', bind_bad', bind_exc', bind_ite, out_ok', out_bad', out_exc', out_ite, seq_next, seq_ret, seq_brk, seq_cnt, seq_exc, seq_bad, seq_ite, fin_next, fin_ret, fin_bad, fin_exc, fin_ite, nextO, op1, op2, ↓op2b_def, opN, giveT, getAll, Tm.get, Tm.esc, slot, Sl.get, share, take, takeAll, mkT, truOf, truD, cmpB, cmpD, ordD, binD, negD, notD, idxD, slcD, revD, biD, isiD, isD, isNone, ↓lcT_def, onTg, clr, rst, Res.noExc, List.map_cons, List.map_nil, List.all_cons, List.all_nil, plainAt, Sl.plain, Bool.and_true, Bool.and_self, tgIx, tgsIx, itemsOf, asgS, asgTg, asgTgs, Sl.opt, iosOf, endRet, doCall, doCallN, doCallB, isScal, lsetD, arGet, arIos, putIos, putIo, chgI, chgE, setAt, appAt, extAt, ownL, newL, newT, exAt, setX, noEx, Sl.notEx, evalHs, popE, popIx, augD, parS, eqD_int, eqD_str, at0, at1, at2, at3, at4, at5, w_group_group, w_group_single, w_group_part, w_group_go, w_single_group, w_single_single, w_single_part, w_single_go, w_part_group, w_part_single, w_part_part, w_part_go, w_go_group, w_go_single, w_go_part, w_go_go, sm0, sm1, sm2, sm3, sm4, sm5, sm6, sm7, sm8, sm9, sm10, sm11, sm12, sm13, sm14, sm15, sm16, sm17, sm18, sm19, sm20, sm21, sm22, sm23, sm24, sm25, sm26, sm27, sm28, sm29, sm30, sm31, sm32, sm33, sm34, sm35, sm36, sm37, sm38, sm39, sm40, List.getElem?_cons_zero, List.getElem?_cons_succ, List.set_cons_zero, List.set_cons_succ, List.nodup_nil, if_true, if_false, Bool.not_true, Bool.not_false, ↓reduceIte, Bool.false_eq_true, decide_eq_true_eq, List.nodup_cons, List.not_mem_nil, not_false_eq_true, and_self, true_and, and_true, Option.bind_some, Option.isSome_some, Option.getD_some, reduceCtorEq, decide_true, decide_false, Int.reduceLE, Int.reduceLT, Int.reduceEq, Int.reduceNe, Int.reduceAdd, Int.reduceSub, Int.reduceNeg, Nat.reduceAdd, Nat.reduceLeDiff, Int.cast_ofNat_Int, eq_self, List.length_cons, List.length_nil, Nat.zero_add, $ls,*])
local macro_rules | `(tactic| simp_arith) => `(tactic| simp (config := { decide := false }) only [run_fin, Def.start, parSl, Option.map_some, List.replicate, List.cons_append, List.nil_append, List.append_nil, evalSs, evalS, evalE, ↓turn_def, ↓wturn_def, cl_next, cl_cnt, cl_brk, cl_ret, cl_exc, cl_bad, cl_ite, ↓lcC_def, evalEs, evalB, evalAs, evalT, evalTs, evalO, evalI, evalC, bind_ok', bind_bad', bind_exc', bind_ite, out_ok', out_bad', out_exc', out_ite, seq_next, seq_ret, seq_brk, seq_cnt, seq_exc, seq_bad, seq_ite, fin_next, fin_ret, fin_bad, fin_exc, fin_ite, nextO, op1, op2, ↓op2b_def, opN, giveT, getAll, Tm.get, Tm.esc, slot, Sl.get, share, take, takeAll, mkT, truOf, truD, cmpB, cmpD, ordD, binD, negD, notD, idxD, slcD, revD, biD, isiD, isD, isNone, ↓lcT_def, onTg, clr, rst, Res.noExc, List.map_cons, List.map_nil, List.all_cons, List.all_nil, plainAt, Sl.plain, Bool.and_true, Bool.and_self, tgIx, tgsIx, itemsOf, asgS, asgTg, asgTgs, Sl.opt, iosOf, endRet, doCall, doCallN, doCallB, isScal, lsetD, arGet, arIos, putIos, putIo, chgI, chgE, setAt, appAt, extAt, ownL, newL, newT, exAt, setX, noEx, Sl.notEx, evalHs, popE, popIx, augD, parS, eqD_int, eqD_str, at0, at1, at2, at3, at4, at5, w_group_group, w_group_single, w_group_part, w_group_go, w_single_group, w_single_single, w_single_part, w_single_go, w_part_group, w_part_single, w_part_part, w_part_go, w_go_group, w_go_single, w_go_part, w_go_go, sm0, sm1, sm2, sm3, sm4, sm5, sm6, sm7, sm8, sm9, sm10, sm11, sm12, sm13, sm14, sm15, sm16, sm17, sm18, sm19, sm20, sm21, sm22, sm23, sm24, sm25, sm26, sm27, sm28, sm29, sm30, sm31, sm32, sm33, sm34, sm35, sm36, sm37, sm38, sm39, sm40, List.getElem?_cons_zero, List.getElem?_cons_succ, List.set_cons_zero, List.set_cons_succ, List.nodup_nil, if_true, if_false, Bool.not_true, Bool.not_false, ↓reduceIte, Bool.false_eq_true, decide_eq_true_eq, List.nodup_cons, List.not_mem_nil, not_false_eq_true, and_self, true_and, and_true, Option.bind_some, Option.isSome_some, Option.getD_some, reduceCtorEq, decide_true, decide_false, Int.reduceLE, Int.reduceLT, Int.reduceEq, Int.reduceNe, Int.reduceAdd, Int.reduceSub, Int.reduceNeg, Nat.reduceAdd, Nat.reduceLeDiff, Int.cast_ofNat_Int, eq_self, List.length_cons, List.length_nil, Nat.zero_add])
theorem atAny {α : Type} (xs : List α) (P : α → Prop) (hP : ∀ x ∈ xs, P x) (i : Int) (h0 : 0 ≤ i) (h : i < xs.length) : ∃ d, atI xs i = some d ∧ P d := by
  obtain ⟨n, rfl⟩ := Int.eq_ofNat_of_zero_le h0
  have hn : n < xs.length := by omega
  exact ⟨xs[n], by rw [atI_nat xs n hn, List.getElem?_eq_getElem hn], hP _ (List.getElem_mem hn)⟩
theorem oddOk (k : Dk) (hk : k.ok) : ∃ d, ∃ k' : Dk, f__law_odd [k.d] = .ok false d [k'.d] ∧ k'.ok ∧ ∀ ds, d = .tuple ds → ds.length ≤ 1000 := by
  obtain ⟨u, k1, e1, u0, u1, h1⟩ := take_ok k hk 16 (by decide) (by decide)
  obtain ⟨d, hd, hp⟩ := atAny [PyData.none, .bool true, .bool false, .str "", .str "2", .tuple [], .list [], .dict [], .tuple [.int 1], .list [.int 1], .int (-1), .str "group", .tuple [.int 0, .int 0], .list [.tuple [.int 1, .int 2]], .dict [(.int 1, .int 2)], .tuple [.tuple []]] (fun d => ∀ ds, d = .tuple ds → ds.length ≤ 1000) (fun x hx ds e => by
    subst e
    simp at hx
    rcases hx with rfl | rfl | rfl | rfl <;> simp) u u0 (by simpa using u1)
  refine ⟨d, k1, ?_, h1, hp⟩
  unfold f__law_odd c__law_odd
  simp_arith [e1, hd]
theorem eqD_selfD {d : D} (h : SeqAt.shaped d = true) (e : PyData.eqv d d = true) (hs : ∀ x, d ≠ .str x) : eqD d d = some true := by
  cases d with
  | str x => exact absurd rfl (hs x)
  | _ => unfold eqD; simp only [h, e, Bool.and_self, if_true]
/-! ### states -/
def isSt (s : Su) : D → Bool
  | .tuple [t, l, n, m] => num 0 ((s.seats.length : Int) - 1) t && areN 0 s.r1 1 5 l && num 0 s.r2 n && num 0 2 m
  | _ => false
theorem isSt_iff {s : Su} {d : D} : isSt s d = true ↔ ∃ t : St, d = t.d ∧ t.ok s := by
  constructor
  · intro h
    unfold isSt at h
    split at h
    · rename_i t l n m
      simp only [Bool.and_eq_true] at h
      obtain ⟨⟨⟨h1, h2⟩, h3⟩, h4⟩ := h
      obtain ⟨t, rfl, a0, a1⟩ := num_int h1
      obtain ⟨ns, rfl, b0, b1, b2⟩ := areN_iff.mp h2
      obtain ⟨n, rfl, c0, c1⟩ := num_int h3
      obtain ⟨m, rfl, d0, d1⟩ := num_int h4
      exact ⟨⟨t, ns, n, m⟩, rfl, ⟨a0, by simp only; omega⟩, b1, b2, ⟨c0, c1⟩, ⟨d0, d1⟩⟩
    · cases h
  · rintro ⟨t, rfl, h⟩
    show (num 0 ((s.seats.length : Int) - 1) (.int t.turn) && areN 0 s.r1 1 5 (.tuple (intL t.line)) && num 0 s.r2 (.int t.singles) && num 0 2 (.int t.mood)) = true
    have e1 : num 0 ((s.seats.length : Int) - 1) (.int t.turn) = true := decide_eq_true ⟨h.tt.1, by have := h.tt.2; omega⟩
    have e2 : areN 0 s.r1 1 5 (.tuple (intL t.line)) = true := areN_iff.mpr ⟨t.line, rfl, by omega, h.ll, h.zz⟩
    have e3 : num 0 s.r2 (.int t.singles) = true := decide_eq_true h.ss
    have e4 : num 0 2 (.int t.mood) = true := decide_eq_true h.mm
    rw [e1, e2, e3, e4]
    rfl
theorem isSt_len {s : Su} {ds : List D} (h : ds.length ≠ 4) : isSt s (.tuple ds) = false := by
  unfold isSt
  split
  · rename_i e
    cases e
    exact absurd rfl h
  · rfl
theorem is_state_any (s : Su) (h : s.ok) (d : D) : f_is_state [s.d, d] = .ok false (.bool (isSt s d)) [] := by
  unfold f_is_state c_is_state
  cases d with
  | tuple ds =>
    by_cases hl : ds.length = 4
    · obtain ⟨t, l, n, m, rfl⟩ : ∃ t l n m, ds = [t, l, n, m] := by
        match ds, hl with
        | [a, b, c, d], _ => exact ⟨a, b, c, d, rfl⟩
      have hr := h.r1
      unfold Su.d
      have q2 := are_numbers_any l 0 s.r1 1 5 (by omega)
      cases c1 : num 0 ((s.seats.length : Int) - 1) t with
      | false =>
        simp_arith [is_number_any, intL_len, c1]
        simp [isSt, c1]
      | true =>
        cases c2 : areN 0 s.r1 1 5 l with
        | false =>
          simp_arith [is_number_any, intL_len, c1, q2, c2]
          simp [isSt, c1, c2]
        | true =>
          cases c3 : num 0 s.r2 n with
          | false =>
            simp_arith [is_number_any, intL_len, c1, q2, c2, c3]
            simp [isSt, c1, c2, c3]
          | true =>
            simp_arith [is_number_any, intL_len, c1, q2, c2, c3]
            simp [isSt, c1, c2, c3]
    · rw [isSt_len hl]
      have h4 : ¬ ((ds.length : Int) = 4) := by omega
      simp_arith [h4]
  | _ => simp_arith <;> rfl
/-- the standing of a state -/
def St.std (t : St) : D := match t.line with
  | [] => .tuple [.int t.turn, .int 0, .int 0, .int t.singles, .int t.mood]
  | f :: r => .tuple [.int t.turn, .int f, .int r.length, .int t.singles, .int t.mood]
theorem eqD_nilT (ns : List Int) : eqD (.tuple (intL ns)) (.tuple []) = some (decide (ns = [])) := by
  rw [eqD_pl 2 (by rw [pl_tup]; exact pls_intL) (by rw [pl_tup]; exact pls_nil)]
  congr 1
  cases ns <;> simp [intL]
theorem standing_at_ok (t : St) : f_standing_at [t.d] = .ok false t.std [] := by
  unfold f_standing_at c_standing_at St.d St.std
  have e := eqD_nilT t.line
  cases hl : t.line with
  | nil =>
    rw [hl] at e
    simp_arith [e]
  | cons f r =>
    rw [hl] at e
    have a0 : atI (intL (f :: r)) 0 = some (.int f) := at0 ..
    have e2 : (((f :: r).length : Nat) : Int) - 1 = (r.length : Nat) := by rw [List.length_cons]; omega
    simp only [reduceCtorEq, decide_false] at e
    simp_arith [e, a0, intL_len, e2]
    all_goals (try (simp; try omega))
theorem law_standing_ok (t : St) : f__law_standing [t.d] = .ok false t.std [] := by
  unfold f__law_standing c__law_standing St.d St.std
  have e := eqD_nilT t.line
  cases hl : t.line with
  | nil =>
    rw [hl] at e
    simp_arith [e]
  | cons f r =>
    rw [hl] at e
    have a0 : atI (intL (f :: r)) 0 = some (.int f) := at0 ..
    have e2 : (((f :: r).length : Nat) : Int) - 1 = (r.length : Nat) := by rw [List.length_cons]; omega
    simp only [reduceCtorEq, decide_false] at e
    simp_arith [e, a0, intL_len, e2]
    all_goals (try (simp; try omega))
theorem check_setup_ok' (s : Su) (h : s.ok) : f_check_setup [s.d] = .ok false .none [] := by
  have := is_setup_ok s h
  unfold f_check_setup c_check_setup
  simp_arith [this]
theorem x_any_state_ok (s : Su) (h : s.ok) (k : Dk) (hd : k.ok) (x : Sl) : ∃ ns, ∃ k' : Dk, evalE x__law_any_state__1_0 [.io 0 k.d, .sh s.d, x, .un] = .ok (.ow (.list (intL ns))) [.io 0 k'.d, .sh s.d, x, .un] ∧
    (ns.length : Int) ≤ s.r1 ∧ (∀ n ∈ ns, 1 ≤ n ∧ n ≤ 5) ∧ k'.ok := by
  have hr := h.r1
  obtain ⟨v, k1, e1, v0, v1, h1⟩ := take_ok k hd (s.r1 + 1) (by omega) (by omega)
  have hrg : RngOk v := rngOk_small
  unfold x__law_any_state__1_0
  refine lc_R (fun q : Dk => [.io 0 q.d, .sh s.d, x, .un]) .int (rngL 0 v.toNat) (fun q rest acc => q.ok ∧ ∃ ns, acc = intL ns ∧ ns.length + rest.length = v.toNat ∧ (∀ n ∈ ns, 1 ≤ n ∧ n ≤ 5))
    (fun r => ∃ ns, ∃ k' : Dk, r = .ok (.ow (.list (intL ns))) [.io 0 k'.d, .sh s.d, x, .un] ∧ (ns.length : Int) ≤ s.r1 ∧ (∀ n ∈ ns, 1 ≤ n ∧ n ≤ 5) ∧ k'.ok) (ρ1 := [.io 0 k1.d, .sh s.d, x, .un])
    (by unfold Su.d; simp_arith [e1, hrg, rng_map]) (by simp_arith) k1 (by simp_arith) ⟨h1, [], rfl, by rw [rngL_len]; simp, by simp⟩ ?_ ?_
  · rintro q d rest acc ⟨hq, ns, rfl, hl, hn⟩
    obtain ⟨u, k2, e2, u0, u1, h2⟩ := take_ok q hq 5 (by omega) (by omega)
    rw [List.length_cons] at hl
    refine ⟨some (.int (1 + u)), k2, by simp_arith [e2], ⟨h2, ns ++ [1 + u], intL_snoc .., by rw [List.length_append, List.length_singleton]; omega, fun n hn' => ?_⟩, by rw [intL_len]; omega⟩
    rcases List.mem_append.mp hn' with q | q
    · exact hn n q
    · rw [List.mem_singleton.mp q]; omega
  · rintro q acc ⟨hq, ns, rfl, hl, hn⟩
    rw [List.length_nil] at hl
    exact ⟨ns, q, by simp_arith, by omega, hn, hq⟩
theorem any_state_ok (s : Su) (h : s.ok) (k : Dk) (hd : k.ok) : ∃ t : St, ∃ k' : Dk, f__law_any_state__1 [k.d, s.d] = .ok false t.d [k'.d] ∧ t.ok s ∧ k'.ok := by
  obtain ⟨ns, k1, e1, l1, l2, h1⟩ := x_any_state_ok s h k hd .un
  have hs1 := h.s1
  have hs2 := h.s2
  have hr2 := h.r2
  obtain ⟨a, k2, e2, a0, a1, h2⟩ := take_ok k1 h1 (s.seats.length : Int) (by omega) (by omega)
  obtain ⟨b, k3, e3, b0, b1, h3⟩ := take_ok k2 h2 (s.r2 + 1) (by omega) (by omega)
  obtain ⟨c, k4, e4, c0, c1, h4⟩ := take_ok k3 h3 3 (by omega) (by omega)
  refine ⟨⟨a, ns, b, c⟩, k4, ?_, ⟨⟨a0, a1⟩, l1, l2, ⟨b0, by simp only; omega⟩, ⟨c0, by simp only; omega⟩⟩, h4⟩
  unfold f__law_any_state__1 c__law_any_state__1 St.d
  unfold Su.d at *
  simp_arith [e1, intL_len, e2, e3, e4]
theorem spoiled_tuple_ok (k : Dk) (hd : k.ok) (ns : List Int) (hl : ns.length ≤ 1000) : ∃ own d, ∃ k' : Dk, f__law_spoiled_tuple [k.d, .tuple (intL ns)] = .ok own d [k'.d] ∧ k'.ok := by
  obtain ⟨u, k1, e1, u0, u1, h1⟩ := take_ok k hd 6 (by decide) (by decide)
  obtain ⟨v, k2, e2, v0, v1, h2⟩ := take_ok k1 h1 ((ns.length : Int) + 1) (by omega) (by omega)
  have q1 := cut_to (intL ns) v v0
  have q2 := cut_from (intL ns) (v + 1) (by omega)
  have q3 := cut_from (intL ns) v v0
  have z0 : Sm (((intL ns).take v.toNat).length + ((intL ns).drop (v + 1).toNat).length) := by rw [List.length_take, List.length_drop, intL_len]; exact sm
  have z1 : Sm (((intL ns).take v.toNat).length + 1) := by rw [List.length_take, intL_len]; exact sm
  have z2 : Sm (((intL ns).take v.toNat).length + 1 + ((intL ns).drop (v + 1).toNat).length) := by rw [List.length_take, List.length_drop, intL_len]; exact sm
  have z3 : Sm (((intL ns).take v.toNat).length + 1 + ((intL ns).drop v.toNat).length) := by rw [List.length_take, List.length_drop, intL_len]; exact sm
  unfold f__law_spoiled_tuple c__law_spoiled_tuple
  generalize hN : (ns.length : Int) = N at *
  by_cases c0 : u = 0
  · exact ⟨_, _, k2, by simp_arith [e1, c0, intL_len, hN, e2]; exact rfl, h2⟩
  by_cases c1 : u = 1
  · exact ⟨_, _, k2, by simp_arith [e1, c1, intL_len, hN, e2, q1, q2, z0, List.length_append]; exact rfl, h2⟩
  by_cases c2 : u = 2
  · obtain ⟨w, k3, e3, w0, w1, h3⟩ := take_ok k2 h2 7 (by decide) (by decide)
    exact ⟨_, _, k3, by simp_arith [e1, c2, intL_len, hN, e2, q1, q3, e3, z1, z3, List.length_append]; exact rfl, h3⟩
  by_cases c3 : u = 3
  · exact ⟨_, _, k2, by simp_arith [e1, c3, intL_len, hN, e2]; exact rfl, h2⟩
  by_cases c4 : u = 4
  · obtain ⟨d, k3, e3, h3, _⟩ := oddOk k2 h2
    exact ⟨_, _, k3, by simp_arith [e1, c4, intL_len, hN, e2, q1, q2, e3, z1, z2, List.length_append]; exact rfl, h3⟩
  · obtain ⟨w, k3, e3, w0, w1, h3⟩ := take_ok k2 h2 13 (by decide) (by decide)
    exact ⟨_, _, k3, by simp_arith [e1, c0, c1, c2, c3, c4, intL_len, hN, e2, q1, q2, e3, z1, z2, List.length_append]; exact rfl, h3⟩
end
end Pg

end

-- MCm
section
/-! MCm: the law's comers; what is told of them. -/
namespace Pg
open PySem L2 Ev
noncomputable section
local macro_rules | `(tactic| simp_arith [$ls,*]) => `(tactic| simp (config := { decide := false }) only [run_fin, Def.start, parSl, Option.map_some, List.replicate, List.cons_append, List.nil_append, List.append_nil, evalSs, evalS, evalE, ↓turn_def, ↓wturn_def, cl_next, cl_cnt, cl_brk, cl_ret, cl_exc, cl_bad, cl_ite, ↓lcC_def, evalEs, evalB, evalAs, evalT, evalTs, evalO, evalI, evalC, bind_ok', bind_bad', bind_exc', bind_ite, out_ok', out_bad', out_exc', out_ite, seq_next, seq_ret, seq_brk, seq_cnt, seq_exc, seq_bad, seq_ite, fin_next, fin_ret, fin_bad, fin_exc, fin_ite, nextO, op1, op2, ↓op2b_def, opN, giveT, getAll, Tm.get, Tm.esc, slot, Sl.get, share, take, takeAll, mkT, truOf, truD, cmpB, cmpD, ordD, binD, negD, notD, idxD, slcD, revD, biD, isiD, isD, isNone, ↓lcT_def, onTg, clr, rst, Res.noExc, List.map_cons, List.map_nil, List.all_cons, List.all_nil, plainAt, Sl.plain, Bool.and_true, Bool.and_self, tgIx, tgsIx, itemsOf, asgS, asgTg, asgTgs, Sl.opt, iosOf, endRet, doCall, doCallN, doCallB, isScal, lsetD, arGet, arIos, putIos, putIo, chgI, chgE, setAt, appAt, extAt, ownL, newL, newT, exAt, setX, noEx, Sl.notEx, evalHs, popE, popIx, augD, parS, eqD_int, eqD_str, at0, at1, at2, at3, at4, at5, w_group_group, w_group_single, w_group_part, w_group_go, w_single_group, w_single_single, w_single_part, w_single_go, w_part_group, w_part_single, w_part_part, w_part_go, w_go_group, w_go_single, w_go_part, w_go_go, sm0, sm1, sm2, sm3, sm4, sm5, sm6, sm7, sm8, sm9, sm10, sm11, sm12, sm13, sm14, sm15, sm16, sm17, sm18, sm19, sm20, sm21, sm22, sm23, sm24, sm25, sm26, sm27, sm28, sm29, sm30, sm31, sm32, sm33, sm34, sm35, sm36, sm37, sm38, sm39, sm40, List.getElem?_cons_zero, List.getElem?_cons_succ, List.set_cons_zero, List.set_cons_succ, List.nodup_nil, if_true, if_false, Bool.not_true, Bool.not_false, ↓reduceIte, Bool.false_eq_true, decide_eq_true_eq, List.nodup_cons, List.not_mem_nil, not_false_eq_true, and_self, true_and, and_true, Option.bind_some, Option.isSome_some, Option.getD_some, reduceCtorEq, decide_true, decide_false, Int.reduceLE, Int.reduceLT, Int.reduceEq, Int.reduceNe, Int.reduceAdd, Int.reduceSub, Int.reduceNeg, Nat.reduceAdd, Nat.reduceLeDiff, Int.cast_ofNat_Int, eq_self, List.length_cons, List.length_nil, Nat.zero_add, $ls,*])
local macro_rules | `(tactic| simp_arith) => `(tactic| simp (config := { decide := false }) only [run_fin, Def.start, parSl, Option.map_some, List.replicate, List.cons_append, List.nil_append, List.append_nil, evalSs, evalS, evalE, ↓turn_def, ↓wturn_def, cl_next, cl_cnt, cl_brk, cl_ret, cl_exc, cl_bad, cl_ite, ↓lcC_def, evalEs, evalB, evalAs, evalT, evalTs, evalO, evalI, evalC, bind_ok', bind_bad', bind_exc', bind_ite, out_ok', out_bad', out_exc', out_ite, seq_next, seq_ret, seq_brk, seq_cnt, seq_exc, seq_bad, seq_ite, fin_next, fin_ret, fin_bad, fin_exc, fin_ite, nextO, op1, op2, ↓op2b_def, opN, giveT, getAll, Tm.get, Tm.esc, slot, Sl.get, share, take, takeAll, mkT, truOf, truD, cmpB, cmpD, ordD, binD, negD, notD, idxD, slcD, revD, biD, isiD, isD, isNone, ↓lcT_def, onTg, clr, rst, Res.noExc, List.map_cons, List.map_nil, List.all_cons, List.all_nil, plainAt, Sl.plain, Bool.and_true, Bool.and_self, tgIx, tgsIx, itemsOf, asgS, asgTg, asgTgs, Sl.opt, iosOf, endRet, doCall, doCallN, doCallB, isScal, lsetD, arGet, arIos, putIos, putIo, chgI, chgE, setAt, appAt, extAt, ownL, newL, newT, exAt, setX, noEx, Sl.notEx, evalHs, popE, popIx, augD, parS, eqD_int, eqD_str, at0, at1, at2, at3, at4, at5, w_group_group, w_group_single, w_group_part, w_group_go, w_single_group, w_single_single, w_single_part, w_single_go, w_part_group, w_part_single, w_part_part, w_part_go, w_go_group, w_go_single, w_go_part, w_go_go, sm0, sm1, sm2, sm3, sm4, sm5, sm6, sm7, sm8, sm9, sm10, sm11, sm12, sm13, sm14, sm15, sm16, sm17, sm18, sm19, sm20, sm21, sm22, sm23, sm24, sm25, sm26, sm27, sm28, sm29, sm30, sm31, sm32, sm33, sm34, sm35, sm36, sm37, sm38, sm39, sm40, List.getElem?_cons_zero, List.getElem?_cons_succ, List.set_cons_zero, List.set_cons_succ, List.nodup_nil, if_true, if_false, Bool.not_true, Bool.not_false, ↓reduceIte, Bool.false_eq_true, decide_eq_true_eq, List.nodup_cons, List.not_mem_nil, not_false_eq_true, and_self, true_and, and_true, Option.bind_some, Option.isSome_some, Option.getD_some, reduceCtorEq, decide_true, decide_false, Int.reduceLE, Int.reduceLT, Int.reduceEq, Int.reduceNe, Int.reduceAdd, Int.reduceSub, Int.reduceNeg, Nat.reduceAdd, Nat.reduceLeDiff, Int.cast_ofNat_Int, eq_self, List.length_cons, List.length_nil, Nat.zero_add])
theorem lawIsCm (s : Su) (h : s.ok) (d : D) : f__law_is_comers [s.d, d] = .ok false (.bool (isCm s d)) [] := by
  unfold f__law_is_comers c__law_is_comers
  have hc := h.c1
  cases d with
  | tuple ds =>
    match ds with
    | [] => simp_arith [isCm_len (s := s) (ds := []) (by decide)]
    | [x] => simp_arith [isCm_len (s := s) (ds := [x]) (by simp)]
    | a :: b :: c :: r =>
      have e : ¬ ((r.length + 1 + 1 + 1 : Nat) : Int) = 2 := by omega
      have e3 := isCm_len (s := s) (ds := a :: b :: c :: r) (by simp)
      simp_arith [e, e3]
    | [g, n] =>
      cases g with
      | tuple gs =>
        by_cases h1 : (gs.length : Int) ≤ s.c1
        · have h2 : ¬ (s.c1 < (gs.length : Int)) := by omega
          have x : evalE x__law_is_comers_0 [.sh s.d, .sh (.tuple [.tuple gs, n]), .un] = .ok (.ow (.list (gs.filter fun g => !isSz s g))) [.sh s.d, .sh (.tuple [.tuple gs, n]), .un] := by
            unfold x__law_is_comers_0
            have := lc_filter (own := [("size", 2)]) (tg := .nm 2) (it := .lst (.idx (.var 1) (.cst (.int 0)))) (c := some (.bool false (.cons (.not_ (.tru (.call "_law_whole" f__law_whole [] (.val (.var 2) (.val (.cst (.int 1)) (.val (.cst (.int 5)) .nil)))))) (.cons (.cmp .notin (.var 2) (.idx (.var 0) (.cst (.int 1)))) .nil)))) (e := .var 2)
              (ρ := [.sh s.d, .sh (.tuple [.tuple gs, n]), .un]) (ρ1 := [.sh s.d, .sh (.tuple [.tuple gs, n]), .un]) (fun d : D => d) gs (fun g => !isSz s g) (fun d : D => d) (by simp_arith [List.map_id']) (by simp_arith) (by omega) fun g _ => ?_
            · rw [this, List.map_id']
            · cases hn : num 1 5 g with
              | false =>
                have hz : isSz s g = false := by
                  cases g with
                  | int i =>
                    have := of_decide_eq_false hn
                    exact decide_eq_false fun z => this (h.z3 i z)
                  | _ => rfl
                simp_arith [law_whole_any, hn, hz]
              | true =>
                obtain ⟨i, rfl, _⟩ := num_int hn
                have hi := (inD_pl (x := .int i) (ds := intL s.sizes) 5 pl_int pls_intL).2
                simp only [mem_intL] at hi
                unfold Su.d
                simp_arith [law_whole_any, hn, hi, isSz]
                by_cases hm : i ∈ s.sizes
                · simp [hm]
                · simp [hm]
          have hnil : (gs.filter (fun g => !isSz s g) = []) = (gs.all (isSz s) = true) := by
            rw [List.filter_eq_nil_iff, List.all_eq_true]
            simp
          unfold Su.d at *
          cases h4 : num 0 s.c2 n with
          | false =>
            simp_arith [h2, law_whole_any, h4]
            simp [isCm, h4]
          | true =>
            simp_arith [h2, law_whole_any, h4, x, eqD_nilL, hnil]
            simp only [isCm, h4, h1, decide_true, Bool.true_and, Bool.and_true, Bool.decide_eq_true]
        · have h2 : s.c1 < (gs.length : Int) := by omega
          unfold Su.d
          simp_arith [h2]
          simp [isCm, h1]
      | _ => simp_arith <;> rfl
  | _ => simp_arith <;> rfl
theorem badCm (s : Su) (h : s.ok) (k : Dk) (hk : k.ok) : ∃ d, ∃ k' : Dk, f__law_bad_comers [k.d, s.d] = .ok false d [k'.d] ∧ k'.ok := by
  obtain ⟨c, k1, e1, hc, h1⟩ := comers1_ok s h k hk
  obtain ⟨u, k2, e2, u0, u1, h2⟩ := take_ok k1 h1 8 (by decide) (by decide)
  have hl := cm_len s h hc
  have hs1 := h.c1
  have hz := h.z1
  have hat0 : atI (intL s.sizes) 0 = some (.int (s.sizes[(0 : Int).toNat]?.getD 0)) := at_intL s.sizes 0 (by decide) (by omega)
  generalize s.sizes[(0 : Int).toNat]?.getD 0 = z0 at hat0
  unfold f__law_bad_comers c__law_bad_comers
  unfold Cm.d at e1
  by_cases c0 : u = 0
  · obtain ⟨v, k3, e3, v0, v1, h3⟩ := take_ok k2 h2 4 (by decide) (by decide)
    obtain ⟨d, hd, _⟩ := atAny [PyData.tuple [.list (intL c.gs), .int c.n], .list [.tuple (intL c.gs), .int c.n], .tuple [.tuple (intL c.gs)], .tuple [.tuple (intL c.gs), .int c.n, .int 0]] (fun _ => True) (fun _ _ => trivial) v v0 (by simpa using v1)
    exact ⟨d, k3, by simp_arith [e1, e2, c0, e3, hd], h3⟩
  by_cases c1 : u = 1
  · obtain ⟨v, k3, e3, v0, v1, h3⟩ := take_ok k2 h2 6 (by decide) (by decide)
    obtain ⟨d, hd, _⟩ := atAny [PyData.int (-1), .bool true, .none, .str "1", .int (s.c2 + 1), .tuple [.int 1]] (fun _ => True) (fun _ _ => trivial) v v0 (by simpa using v1)
    exact ⟨.tuple [.tuple (intL c.gs), d], k3, by unfold Su.d at *; simp_arith [e1, e2, c1, e3, hd], h3⟩
  by_cases c2 : u = 2
  · have hrep : RepTOk 1 (1 + s.c1 - (c.gs.length : Int)) := ⟨by decide, by decide, by have := hc.g1; omega, by omega⟩
    have hr : ∀ j : Int, j ≤ 10 → Sm ((intL c.gs).length + (repL j.toNat [PyData.int z0]).length) := fun j hj => by
      unfold Sm repL
      rw [intL_len]
      have e : (List.replicate j.toNat [PyData.int z0]).flatten.length = j.toNat := by simp
      omega
    have hr2 := hr (1 + s.c1 - (c.gs.length : Int)) (by omega)
    rw [intL_len] at hr2
    refine ⟨.tuple [.tuple (intL c.gs ++ repL (1 + s.c1 - (c.gs.length : Int)).toNat [PyData.int z0]), .int c.n], k2, ?_, h2⟩
    unfold Su.d at *
    generalize hN : (c.gs.length : Int) = N at *
    simp_arith [e1, e2, c2, intL_len, hN, hat0, hrep, hr2]
  by_cases c3 : u = 3
  · obtain ⟨d, k3, e3, h3, _⟩ := oddOk k2 h2
    exact ⟨d, k3, by simp_arith [e1, e2, c3, e3], h3⟩
  by_cases c4 : u = 4
  · exact ⟨.tuple [.int c.n, .tuple (intL c.gs)], k2, by simp_arith [e1, e2, c4], h2⟩
  · obtain ⟨v, k3, e3, v0, v1, h3⟩ := take_ok k2 h2 ((c.gs.length : Int) + 1) (by omega) (by omega)
    obtain ⟨w, k4, e4, w0, w1, h4⟩ := take_ok k3 h3 8 (by decide) (by decide)
    obtain ⟨x, k5, e5, x0, x1, h5⟩ := take_ok k4 h4 5 (by decide) (by decide)
    obtain ⟨d, hd, _⟩ := atAny [PyData.int w, .bool true, .str "1", .none, .int z0] (fun _ => True) (fun _ _ => trivial) x x0 (by simpa using x1)
    have q1 := cut_to (intL c.gs) v v0
    have q2 := cut_from (intL c.gs) (v + 1) (by omega)
    have z1 : Sm (((intL c.gs).take v.toNat).length + 1) := by rw [List.length_take, intL_len]; exact sm
    have z2 : Sm (((intL c.gs).take v.toNat).length + 1 + ((intL c.gs).drop (v + 1).toNat).length) := by rw [List.length_take, List.length_drop, intL_len]; exact sm
    refine ⟨.tuple [.tuple ((intL c.gs).take v.toNat ++ [d] ++ (intL c.gs).drop (v + 1).toNat), .int c.n], k5, ?_, h5⟩
    unfold Su.d at *
    generalize hN : (c.gs.length : Int) = N at *
    simp_arith [e1, e2, c0, c1, c2, c3, c4, intL_len, hN, e3, e4, hat0, e5, hd, q1, q2, z1, z2, List.length_append]
end
end Pg

end

-- MSet
section
/-! MSet: lines, all comers; what is sorted. -/
namespace Pg
open PySem L2 Ev
noncomputable section
local macro_rules | `(tactic| simp_arith [$ls,*]) => `(tactic| simp (config := { decide := false }) only [run_fin, Def.start, parSl, Option.map_some, List.replicate, List.cons_append, List.nil_append, List.append_nil, evalSs, evalS, evalE, ↓turn_def, ↓wturn_def, cl_next, cl_cnt, cl_brk, cl_ret, cl_exc, cl_bad, cl_ite, ↓lcC_def, evalEs, evalB, evalAs, evalT, evalTs, evalO, evalI, evalC, bind_ok', bind_bad', bind_exc', bind_ite, out_ok', out_bad', out_exc', out_ite, seq_next, seq_ret, seq_brk, seq_cnt, seq_exc, seq_bad, seq_ite, fin_next, fin_ret, fin_bad, fin_exc, fin_ite, nextO, op1, op2, ↓op2b_def, opN, giveT, getAll, Tm.get, Tm.esc, slot, Sl.get, share, take, takeAll, mkT, truOf, truD, cmpB, cmpD, ordD, binD, negD, notD, idxD, slcD, revD, biD, isiD, isD, isNone, ↓lcT_def, onTg, clr, rst, Res.noExc, List.map_cons, List.map_nil, List.all_cons, List.all_nil, plainAt, Sl.plain, Bool.and_true, Bool.and_self, tgIx, tgsIx, itemsOf, asgS, asgTg, asgTgs, Sl.opt, iosOf, endRet, doCall, doCallN, doCallB, isScal, lsetD, arGet, arIos, putIos, putIo, chgI, chgE, setAt, appAt, extAt, ownL, newL, newT, exAt, setX, noEx, Sl.notEx, evalHs, popE, popIx, augD, parS, eqD_int, eqD_str, at0, at1, at2, at3, at4, at5, w_group_group, w_group_single, w_group_part, w_group_go, w_single_group, w_single_single, w_single_part, w_single_go, w_part_group, w_part_single, w_part_part, w_part_go, w_go_group, w_go_single, w_go_part, w_go_go, sm0, sm1, sm2, sm3, sm4, sm5, sm6, sm7, sm8, sm9, sm10, sm11, sm12, sm13, sm14, sm15, sm16, sm17, sm18, sm19, sm20, sm21, sm22, sm23, sm24, sm25, sm26, sm27, sm28, sm29, sm30, sm31, sm32, sm33, sm34, sm35, sm36, sm37, sm38, sm39, sm40, List.getElem?_cons_zero, List.getElem?_cons_succ, List.set_cons_zero, List.set_cons_succ, List.nodup_nil, if_true, if_false, Bool.not_true, Bool.not_false, ↓reduceIte, Bool.false_eq_true, decide_eq_true_eq, List.nodup_cons, List.not_mem_nil, not_false_eq_true, and_self, true_and, and_true, Option.bind_some, Option.isSome_some, Option.getD_some, reduceCtorEq, decide_true, decide_false, Int.reduceLE, Int.reduceLT, Int.reduceEq, Int.reduceNe, Int.reduceAdd, Int.reduceSub, Int.reduceNeg, Nat.reduceAdd, Nat.reduceLeDiff, Int.cast_ofNat_Int, eq_self, List.length_cons, List.length_nil, Nat.zero_add, $ls,*])
local macro_rules | `(tactic| simp_arith) => `(tactic| simp (config := { decide := false }) only [run_fin, Def.start, parSl, Option.map_some, List.replicate, List.cons_append, List.nil_append, List.append_nil, evalSs, evalS, evalE, ↓turn_def, ↓wturn_def, cl_next, cl_cnt, cl_brk, cl_ret, cl_exc, cl_bad, cl_ite, ↓lcC_def, evalEs, evalB, evalAs, evalT, evalTs, evalO, evalI, evalC, bind_ok', bind_bad', bind_exc', bind_ite, out_ok', out_bad', out_exc', out_ite, seq_next, seq_ret, seq_brk, seq_cnt, seq_exc, seq_bad, seq_ite, fin_next, fin_ret, fin_bad, fin_exc, fin_ite, nextO, op1, op2, ↓op2b_def, opN, giveT, getAll, Tm.get, Tm.esc, slot, Sl.get, share, take, takeAll, mkT, truOf, truD, cmpB, cmpD, ordD, binD, negD, notD, idxD, slcD, revD, biD, isiD, isD, isNone, ↓lcT_def, onTg, clr, rst, Res.noExc, List.map_cons, List.map_nil, List.all_cons, List.all_nil, plainAt, Sl.plain, Bool.and_true, Bool.and_self, tgIx, tgsIx, itemsOf, asgS, asgTg, asgTgs, Sl.opt, iosOf, endRet, doCall, doCallN, doCallB, isScal, lsetD, arGet, arIos, putIos, putIo, chgI, chgE, setAt, appAt, extAt, ownL, newL, newT, exAt, setX, noEx, Sl.notEx, evalHs, popE, popIx, augD, parS, eqD_int, eqD_str, at0, at1, at2, at3, at4, at5, w_group_group, w_group_single, w_group_part, w_group_go, w_single_group, w_single_single, w_single_part, w_single_go, w_part_group, w_part_single, w_part_part, w_part_go, w_go_group, w_go_single, w_go_part, w_go_go, sm0, sm1, sm2, sm3, sm4, sm5, sm6, sm7, sm8, sm9, sm10, sm11, sm12, sm13, sm14, sm15, sm16, sm17, sm18, sm19, sm20, sm21, sm22, sm23, sm24, sm25, sm26, sm27, sm28, sm29, sm30, sm31, sm32, sm33, sm34, sm35, sm36, sm37, sm38, sm39, sm40, List.getElem?_cons_zero, List.getElem?_cons_succ, List.set_cons_zero, List.set_cons_succ, List.nodup_nil, if_true, if_false, Bool.not_true, Bool.not_false, ↓reduceIte, Bool.false_eq_true, decide_eq_true_eq, List.nodup_cons, List.not_mem_nil, not_false_eq_true, and_self, true_and, and_true, Option.bind_some, Option.isSome_some, Option.getD_some, reduceCtorEq, decide_true, decide_false, Int.reduceLE, Int.reduceLT, Int.reduceEq, Int.reduceNe, Int.reduceAdd, Int.reduceSub, Int.reduceNeg, Nat.reduceAdd, Nat.reduceLeDiff, Int.cast_ofNat_Int, eq_self, List.length_cons, List.length_nil, Nat.zero_add])
def liD (l : List Int) : D := .tuple (intL l)
def srtBy {α : Type} (f : α → D) (xs : List α) : List α := xs.mergeSort fun a b => PySem.W.dataLe false id (f a) (f b)
theorem srtL_map {α : Type} (f : α → D) (xs : List α) : srtL (xs.map f) = (srtBy f xs).map f :=
  (PySem.W.sort_maps (r := fun a b => PySem.W.dataLe false id (f a) (f b)) (s := PySem.W.dataLe false id) f (fun a _ b _ => rfl)).symm
theorem srtBy_mem {α : Type} {f : α → D} {xs : List α} {x : α} : x ∈ srtBy f xs ↔ x ∈ xs := List.mem_mergeSort
theorem srtBy_len {α : Type} {f : α → D} {xs : List α} : (srtBy f xs).length = xs.length := List.length_mergeSort xs
theorem depth_li (l : List Int) : (liD l).depth ≤ 60 := by
  unfold liD PyData.depth
  rw [show intL l = l.map .int from rfl, PySem.W.depth_ints]
  decide
theorem canLay_ints : ∀ ns : List Int, PyData.canLayAll0 (intL ns) = true
  | [] => by simp [intL, PyData.canLayAll0]
  | n :: ns => by
    show PyData.canLayAll0 (.int n :: intL ns) = true
    rw [PyData.canLayAll0, canLay_ints ns]
    rfl
theorem canLay_li (l : List Int) : (liD l).canLay0 = true := by
  unfold liD PyData.canLay0
  exact canLay_ints l
theorem alike_li (a b : List Int) : PySem.W.alike (liD a) (liD b) = true := by
  unfold liD
  simp only [PySem.W.alike]
  exact PySem.W.alike_ints a b
theorem sortOk_li {ls : List (List Int)} (h : ls.length ≤ 16777216) (h0 : ls.head? = some []) : SortOk (ls.map liD) := by
  refine ⟨?_, PySem.W.AllAlike.of alike_li, fun d hd => ?_, .inr ⟨?_, fun d hd => ?_⟩⟩
  · rw [List.length_map, ← line_eq]
    exact h
  · obtain ⟨l, _, rfl⟩ := List.mem_map.mp hd
    exact ⟨canLay_li l, depth_li l⟩
  · rw [List.head?_map, h0]
    rfl
  · obtain ⟨l, _, rfl⟩ := List.mem_map.mp hd
    exact ⟨_, rfl⟩
theorem alike_st (a b : St) : PySem.W.alike a.d b.d = true := by
  have := alike_li a.line b.line
  unfold liD at this
  unfold St.d
  simp [PySem.W.alike, PySem.W.alikeAll] at *
  exact this
theorem depth_st (t : St) : t.d.depth ≤ 60 := by
  have := depth_li t.line
  unfold liD at this
  unfold St.d
  simp [PyData.depth, PyData.depthAll] at *
  rw [show intL t.line = t.line.map .int from rfl, PySem.W.depth_ints]
  decide
theorem canLay_st (t : St) : t.d.canLay0 = true := by
  have := canLay_ints t.line
  unfold St.d
  simp [PyData.canLay0, PyData.canLayAll0, this]
theorem sortOk_st {ls : List St} (h : ls.length ≤ 16777216) : SortOk (ls.map St.d) := by
  refine ⟨?_, PySem.W.AllAlike.of alike_st, fun d hd => ?_, .inl (PySem.W.Sortable.tuples fun t => ⟨_, _, rfl⟩)⟩
  · rw [List.length_map, ← line_eq]
    exact h
  · obtain ⟨l, _, rfl⟩ := List.mem_map.mp hd
    exact ⟨canLay_st l, depth_st l⟩
/-! ### lines -/
def levS (zs : List Int) : Nat → List (List Int)
  | 0 => [[]]
  | k + 1 => (levS zs k).flatMap fun l => zs.map fun z => l ++ [z]
def linS (zs : List Int) : Nat → List (List Int)
  | 0 => [[]]
  | k + 1 => linS zs k ++ levS zs (k + 1)
theorem levS_mem {zs : List Int} : ∀ {k : Nat} {l : List Int}, l ∈ levS zs k ↔ l.length = k ∧ ∀ z ∈ l, z ∈ zs
  | 0, l => by
    unfold levS
    rw [List.mem_singleton]
    constructor
    · rintro rfl; exact ⟨rfl, fun z h => by cases h⟩
    · intro h; exact List.eq_nil_of_length_eq_zero h.1
  | k + 1, l => by
    unfold levS
    rw [List.mem_flatMap]
    constructor
    · rintro ⟨a, ha, hl⟩
      obtain ⟨z, hz, rfl⟩ := List.mem_map.mp hl
      obtain ⟨h1, h2⟩ := levS_mem.mp ha
      refine ⟨by simp [h1], fun y hy => ?_⟩
      rcases List.mem_append.mp hy with hy | hy
      · exact h2 y hy
      · rw [List.mem_singleton.mp hy]; exact hz
    · rintro ⟨h1, h2⟩
      have hne : l ≠ [] := by rintro rfl; simp at h1
      refine ⟨l.dropLast, levS_mem.mpr ⟨by simp [h1], fun z hz => h2 z ((List.dropLast_sublist l).subset hz)⟩, List.mem_map.mpr ⟨l.getLast hne, h2 _ (List.getLast_mem hne), List.dropLast_concat_getLast hne⟩⟩
theorem linS_mem {zs : List Int} : ∀ {k : Nat} {l : List Int}, l ∈ linS zs k ↔ l.length ≤ k ∧ ∀ z ∈ l, z ∈ zs
  | 0, l => by
    unfold linS
    rw [List.mem_singleton]
    constructor
    · rintro rfl; exact ⟨Nat.le_refl _, fun z h => by cases h⟩
    · intro h; exact List.eq_nil_of_length_eq_zero (Nat.le_zero.mp h.1)
  | k + 1, l => by
    unfold linS
    rw [List.mem_append, linS_mem, levS_mem]
    constructor
    · rintro (⟨h1, h2⟩ | ⟨h1, h2⟩)
      · exact ⟨by omega, h2⟩
      · exact ⟨by omega, h2⟩
    · rintro ⟨h1, h2⟩
      by_cases h : l.length ≤ k
      · exact .inl ⟨h, h2⟩
      · exact .inr ⟨by omega, h2⟩
theorem flatN {α β : Type} {f : α → List β} {n : Nat} (h : ∀ a, (f a).length = n) : ∀ xs : List α, (xs.flatMap f).length = xs.length * n
  | [] => by simp
  | x :: xs => by rw [List.flatMap_cons, List.length_append, h, flatN h xs, List.length_cons, Nat.succ_mul]; omega
theorem levS_len (zs : List Int) : ∀ k : Nat, (levS zs (k + 1)).length = (levS zs k).length * zs.length := fun k => flatN (fun a => by rw [List.length_map]) _
theorem lens {zs : List Int} (hz : zs.length ≤ 3) (k : Nat) (hk : k ≤ 3) : (levS zs k).length ≤ 27 ∧ (linS zs k).length ≤ 40 := by
  have a0 : (levS zs 0).length = 1 := rfl
  have b0 : (linS zs 0).length = 1 := rfl
  have a1 : (levS zs 1).length = (levS zs 0).length * zs.length := levS_len zs 0
  have a2 : (levS zs 2).length = (levS zs 1).length * zs.length := levS_len zs 1
  have a3 : (levS zs 3).length = (levS zs 2).length * zs.length := levS_len zs 2
  have b1 : (linS zs 1).length = (linS zs 0).length + (levS zs 1).length := by show (linS zs 0 ++ levS zs 1).length = _; rw [List.length_append]
  have b2 : (linS zs 2).length = (linS zs 1).length + (levS zs 2).length := by show (linS zs 1 ++ levS zs 2).length = _; rw [List.length_append]
  have b3 : (linS zs 3).length = (linS zs 2).length + (levS zs 3).length := by show (linS zs 2 ++ levS zs 3).length = _; rw [List.length_append]
  have h : zs.length = 0 ∨ zs.length = 1 ∨ zs.length = 2 ∨ zs.length = 3 := by omega
  have hk' : k = 0 ∨ k = 1 ∨ k = 2 ∨ k = 3 := by omega
  rcases h with h | h | h | h <;> rw [h] at a1 a2 a3 <;> rcases hk' with rfl | rfl | rfl | rfl <;> omega
def alSt (zs : List Int) (m : Int) (p : List (List Int) × List (List Int)) : Rho := [.sh (liD zs), .sh (.int m), .sh (.list (p.1.map liD)), .sh (.list (p.2.map liD)), .un, .un, .un]
theorem fm_some {α β : Type} (f : α → β) : ∀ xs : List α, xs.filterMap (fun x => some (f x)) = xs.map f
  | [] => rfl
  | x :: xs => by simp
theorem x_all_lines_ok (zs : List Int) (m : Int) (ls la : List (List Int)) (n : Sl) (hz : zs.length ≤ 3) (hl : la.length ≤ 1000) (hn : ∀ l ∈ la, l.length ≤ 1000) : evalE x_all_lines_0 [.sh (liD zs), .sh (.int m), .sh (.list (ls.map liD)), .sh (.list (la.map liD)), n, .un, .un] =
    .ok (.ow (.list ((la.flatMap fun l => zs.map fun z => l ++ [z]).map liD))) [.sh (liD zs), .sh (.int m), .sh (.list (ls.map liD)), .sh (.list (la.map liD)), n, .un, .un] := by
  unfold x_all_lines_0
  have hlen : (la.flatMap fun _ => zs).length ≤ 16777216 := by
    rw [flatN (fun _ => rfl) la]
    have := Nat.mul_le_mul hl hz
    omega
  rw [lc2_fm (ρ1 := [.sh (liD zs), .sh (.int m), .sh (.list (ls.map liD)), .sh (.list (la.map liD)), n, .un, .un]) liD la .int (fun _ => zs) (fun l z => some (liD (l ++ [z]))) (by simp_arith) (by simp_arith) hlen (by simp [tgIx])
    fun l hl => ⟨[.sh (liD zs), .sh (.int m), .sh (.list (ls.map liD)), .sh (.list (la.map liD)), n, .sh (liD l), .un], by simp_arith, by unfold liD intL; simp_arith, by simp_arith, fun z _ => by
      have hs : Sm ((intL l).length + 1) := by have := hn l hl; rw [intL_len]; exact sm
      unfold liD
      simp_arith [hs, intL_snoc]⟩]
  congr 4
  rw [List.map_flatMap]
  congr 1
  funext l
  rw [fm_some, List.map_map]
  rfl
theorem linS_head (zs : List Int) : ∀ k, (linS zs k).head? = some []
  | 0 => rfl
  | k + 1 => by
    show (linS zs k ++ levS zs (k + 1)).head? = _
    rw [List.head?_append, linS_head zs k]
    rfl
theorem lines_loop (zs : List Int) (hz : zs.length ≤ 3) (m : Int) (h0 : 0 ≤ m) (hm : m ≤ 3) : forL (evalSs fuel x_all_lines_1) (.nm 4) [4] (rngD 0 m.toNat) (alSt zs m (linS zs 0, levS zs 0)) = .next (alSt zs m (linS zs m.toNat, levS zs m.toNat)) := by
  rw [rng_map]
  have key := forL_R (body := evalSs fuel x_all_lines_1) (tg := .nm 4) (fg := [4]) (alSt zs m) .int (fun p rest => ∃ k, p = (linS zs k, levS zs k) ∧ k + rest.length = m.toNat) (fun p n rest ⟨k, hp, hk⟩ => by
    subst hp
    rw [List.length_cons] at hk
    refine ⟨(linS zs (k + 1), levS zs (k + 1)), ?_, k + 1, rfl, by omega⟩
    have e := x_all_lines_ok zs m (linS zs k) (levS zs k) (.sh (.int n)) hz (by have := (lens hz k (by omega)).1; omega) fun l hl => by have := (levS_mem.mp hl).1; omega
    have hs : Sm ((linS zs k).length + (levS zs (k + 1)).length) := by have := (lens hz k (by omega)).2; have := (lens hz (k + 1) (by omega)).1; exact sm
    change evalE x_all_lines_0 _ = .ok (.ow (.list ((levS zs (k + 1)).map liD))) _ at e
    unfold alSt x_all_lines_1
    simp_arith [e, List.length_map, hs, ← List.map_append]
    rfl) (rngL 0 m.toNat) (linS zs 0, levS zs 0) (alSt zs m (linS zs 0, levS zs 0)) (by unfold alSt; simp_arith) ⟨0, rfl, by rw [rngL_len]; omega⟩
  obtain ⟨p, e, k, hp, hk⟩ := key
  rw [e, hp]
  simp only [List.length_nil] at hk
  have : k = m.toNat := by omega
  rw [this]
/-- all lines, sorted -/
def allL (zs : List Int) (m : Int) : List (List Int) := srtBy liD (linS zs m.toNat)
theorem allL_mem {zs : List Int} {m : Int} {l : List Int} (h0 : 0 ≤ m) : l ∈ allL zs m ↔ (l.length : Int) ≤ m ∧ ∀ z ∈ l, z ∈ zs := by
  unfold allL
  rw [srtBy_mem, linS_mem]
  constructor
  · rintro ⟨h1, h2⟩; exact ⟨by omega, h2⟩
  · rintro ⟨h1, h2⟩; exact ⟨by omega, h2⟩
theorem allL_len {zs : List Int} {m : Int} (hz : zs.length ≤ 3) (h0 : 0 ≤ m) (hm : m ≤ 3) : (allL zs m).length ≤ 40 := by
  unfold allL
  rw [srtBy_len]
  exact (lens hz m.toNat (by omega)).2
theorem lin_sort {zs : List Int} {m : Int} (hz : zs.length ≤ 3) (h0 : 0 ≤ m) (hm : m ≤ 3) : SortOk ((linS zs m.toNat).map liD) := sortOk_li (by have := (lens hz m.toNat (by omega)).2; omega) (linS_head zs _)
theorem all_lines_ok (zs : List Int) (hz : zs.length ≤ 3) (m : Int) (h0 : 0 ≤ m) (hm : m ≤ 3) : f_all_lines [liD zs, .int m] = .ok true (.list ((allL zs m).map liD)) [] := by
  have e := lines_loop zs hz m h0 hm
  have hrg : RngOk m := rngOk_small
  have hs := lin_sort hz h0 hm
  have e2 := srtL_map liD (linS zs m.toNat)
  unfold alSt at e
  have e0 : (linS zs 0).map liD = [.tuple []] := rfl
  have e1 : (levS zs 0).map liD = [.tuple []] := rfl
  rw [e0, e1] at e
  unfold f_all_lines c_all_lines x_all_lines_2
  simp_arith [hrg, e, hs, e2]
  rfl
/-! the law's own -/
theorem x_law_lines_ok (zs : List Int) (a b c d e f : Sl) (l : List Int) (hz : zs.length ≤ 3) (hl : l.length ≤ 1000) : evalE x__law_lines__1_0 [.sh (liD zs), a, b, c, d, e, .sh (liD l), .un] =
    .ok (.ow (.list ((zs.map fun z => l ++ [z]).map liD))) [.sh (liD zs), a, b, c, d, e, .sh (liD l), .un] := by
  unfold x__law_lines__1_0
  have hs : Sm ((intL l).length + 1) := by rw [intL_len]; exact sm
  rw [lc_map' (ρ1 := [.sh (liD zs), a, b, c, d, e, .sh (liD l), .un]) .int zs (fun z => liD (l ++ [z])) (by unfold liD intL; simp_arith) (by simp_arith) (by omega) fun z _ => by
    unfold liD
    simp_arith [hs, intL_snoc]]
  rw [List.map_map]
  rfl
def llSt (zs : List Int) (m : Int) (x : Sl) (p : List (List Int) × List (List Int)) : Rho := [.sh (liD zs), .sh (.int m), .sh (.list (p.1.map liD)), .sh (.list (p.2.map liD)), .un, .un, .un, .un]
theorem law_lines_in (zs : List Int) (hz : zs.length ≤ 3) (m : Int) (ls la : List (List Int)) (hl : la.length ≤ 100) (hn : ∀ l ∈ la, l.length ≤ 1000) (x : Sl) : forL (evalSs fuel x__law_lines__1_1) (.nm 6) [6] (la.map liD) [.sh (liD zs), .sh (.int m), .sh (.list (ls.map liD)), .sh (.list (la.map liD)), x, .ow (.list []), .un, .un] =
    .next [.sh (liD zs), .sh (.int m), .sh (.list (ls.map liD)), .sh (.list (la.map liD)), x, .ow (.list ((la.flatMap fun l => zs.map fun z => l ++ [z]).map liD)), .un, .un] := by
  have key := forL_R (body := evalSs fuel x__law_lines__1_1) (tg := .nm 6) (fg := [6]) (fun q : List (List Int) => [.sh (liD zs), .sh (.int m), .sh (.list (ls.map liD)), .sh (.list (la.map liD)), x, .ow (.list (q.map liD)), .un, .un]) liD (fun q rest => ∃ pre, pre ++ rest = la ∧ q = pre.flatMap fun l => zs.map fun z => l ++ [z]) (fun q l rest ⟨pre, h1, h2⟩ => by
    subst h2
    have hmem : l ∈ la := by rw [← h1]; simp
    have e := x_law_lines_ok zs (.sh (.int m)) (.sh (.list (ls.map liD))) (.sh (.list (la.map liD))) x (.ow (.list ((pre.flatMap fun l => zs.map fun z => l ++ [z]).map liD))) (.un) l hz (hn l hmem)
    have hlen : (pre.flatMap fun l => zs.map fun z => l ++ [z]).length + zs.length ≤ 16777216 := by
      rw [flatN (n := zs.length) (fun a => by rw [List.length_map]) pre]
      have h3 : pre.length ≤ 100 := by
        have : (pre ++ l :: rest).length = la.length := by rw [h1]
        rw [List.length_append] at this
        omega
      have := Nat.mul_le_mul h3 hz
      omega
    have hs : Sm ((pre.flatMap fun l => zs.map fun z => l ++ [z]).length + zs.length) := hlen
    refine ⟨(pre ++ [l]).flatMap fun l => zs.map fun z => l ++ [z], ?_, pre ++ [l], by rw [← h1]; simp, rfl⟩
    unfold x__law_lines__1_1
    simp_arith [e, List.length_map, hs, ← List.map_append]
    simp [List.flatMap_append]) la [] [.sh (liD zs), .sh (.int m), .sh (.list (ls.map liD)), .sh (.list (la.map liD)), x, .ow (.list []), .un, .un] (by simp_arith) ⟨[], rfl, rfl⟩
  obtain ⟨q, e, pre, h1, h2⟩ := key
  rw [List.append_nil] at h1
  rw [e, h2, h1]
theorem law_lines_loop (zs : List Int) (hz : zs.length ≤ 3) (m : Int) (h0 : 0 ≤ m) (hm : m ≤ 3) : forL (evalSs fuel x__law_lines__1_3) (.nm 4) [4, 5, 6] (rngD 0 m.toNat) (llSt zs m .un (linS zs 0, levS zs 0)) = .next (llSt zs m .un (linS zs m.toNat, levS zs m.toNat)) := by
  rw [rng_map]
  have key := forL_R (body := evalSs fuel x__law_lines__1_3) (tg := .nm 4) (fg := [4, 5, 6]) (llSt zs m .un) .int (fun p rest => ∃ k, p = (linS zs k, levS zs k) ∧ k + rest.length = m.toNat) (fun p n rest ⟨k, hp, hk⟩ => by
    subst hp
    rw [List.length_cons] at hk
    refine ⟨(linS zs (k + 1), levS zs (k + 1)), ?_, k + 1, rfl, by omega⟩
    have e := law_lines_in zs hz m (linS zs k) (levS zs k) (by have := (lens hz k (by omega)).1; omega) (fun l hl => by have := (levS_mem.mp hl).1; omega) (.sh (.int n))
    have hs : Sm ((linS zs k).length + (levS zs (k + 1)).length) := by have := (lens hz k (by omega)).2; have := (lens hz (k + 1) (by omega)).1; exact sm
    have hc : (levS zs k).flatMap (fun l => zs.map fun z => l ++ [z]) = levS zs (k + 1) := rfl
    rw [hc] at e
    unfold llSt x__law_lines__1_3 x__law_lines__1_2
    simp_arith [e, List.length_map, hs, ← List.map_append]
    rfl) (rngL 0 m.toNat) (linS zs 0, levS zs 0) (llSt zs m .un (linS zs 0, levS zs 0)) (by unfold llSt; simp_arith) ⟨0, rfl, by rw [rngL_len]; omega⟩
  obtain ⟨p, e, k, hp, hk⟩ := key
  rw [e, hp]
  simp only [List.length_nil] at hk
  have : k = m.toNat := by omega
  rw [this]
theorem law_lines_ok (zs : List Int) (hz : zs.length ≤ 3) (m : Int) (h0 : 0 ≤ m) (hm : m ≤ 3) : f__law_lines__1 [liD zs, .int m] = .ok true (.list ((allL zs m).map liD)) [] := by
  have e := law_lines_loop zs hz m h0 hm
  have hrg : RngOk m := rngOk_small
  have hs := lin_sort hz h0 hm
  have e2 := srtL_map liD (linS zs m.toNat)
  unfold llSt at e
  have e0 : (linS zs 0).map liD = [.tuple []] := rfl
  have e1 : (levS zs 0).map liD = [.tuple []] := rfl
  rw [e0, e1] at e
  unfold f__law_lines__1 c__law_lines__1 x__law_lines__1_4
  simp_arith [hrg, e, hs, e2]
  rfl
/-! ### all comers -/
def eveC (s : Su) : List Cm := (allL s.sizes s.c1).flatMap fun l => (rngL 0 (s.c2 + 1).toNat).map fun n => ⟨l, n⟩
theorem eveC_mem {s : Su} (h : s.ok) {c : Cm} : c ∈ eveC s ↔ c.ok s := by
  have h1 := h.c1
  have h2 := h.c2
  unfold eveC
  rw [List.mem_flatMap]
  constructor
  · rintro ⟨l, hl, hc⟩
    obtain ⟨n, hn, rfl⟩ := List.mem_map.mp hc
    rw [allL_mem (by omega)] at hl
    rw [rngL_mem] at hn
    exact ⟨hl.1, hl.2, hn.1, by simp only; omega⟩
  · rintro ⟨g1, g2, g3, g4⟩
    exact ⟨c.gs, (allL_mem (by omega)).mpr ⟨g1, g2⟩, List.mem_map.mpr ⟨c.n, rngL_mem.mpr ⟨g3, by omega⟩, rfl⟩⟩
theorem eveC_len {s : Su} (h : s.ok) : (eveC s).length ≤ 120 := by
  have h1 := h.c1
  have h2 := h.c2
  unfold eveC
  rw [flatN (n := (s.c2 + 1).toNat) (fun a => by rw [List.length_map, rngL_len])]
  have a := allL_len h.z2 (m := s.c1) (by omega) (by omega)
  have b : (s.c2 + 1).toNat ≤ 3 := by omega
  have := Nat.mul_le_mul a b
  omega
theorem eve_d (s : Su) (ls : List (List Int)) : (ls.flatMap fun l => (rngL 0 (s.c2 + 1).toNat).filterMap fun n => some (PyData.tuple [liD l, .int n])) = (ls.flatMap fun l => (rngL 0 (s.c2 + 1).toNat).map fun n => (⟨l, n⟩ : Cm)).map Cm.d := by
  rw [List.map_flatMap]
  congr 1
  funext l
  rw [fm_some, List.map_map]
  rfl
theorem all_comers_ok (s : Su) (h : s.ok) : f_all_comers [s.d] = .ok true (rowD (eveC s)) [] := by
  have h1 := h.c1
  have h2 := h.c2
  have hl := all_lines_ok s.sizes h.z2 s.c1 (by omega) (by omega)
  have hn := allL_len h.z2 (m := s.c1) (by omega) (by omega)
  have hcs := check_setup_ok' s h
  have hrg : RngOk (s.c2 + 1) := rngOk_small
  have hlen : ((allL s.sizes s.c1).flatMap fun _ => rngL 0 (s.c2 + 1).toNat).length ≤ 16777216 := by
    rw [flatN (n := (s.c2 + 1).toNat) (fun a => by rw [rngL_len])]
    have b : (s.c2 + 1).toNat ≤ 3 := by omega
    have := Nat.mul_le_mul hn b
    omega
  have x : evalE x_all_comers_0 [.sh s.d, .sh (.list ((allL s.sizes s.c1).map liD)), .un, .un] = .ok (.ow (rowD (eveC s))) [.sh s.d, .sh (.list ((allL s.sizes s.c1).map liD)), .un, .un] := by
    unfold x_all_comers_0
    rw [lc2_fm (ρ1 := [.sh s.d, .sh (.list ((allL s.sizes s.c1).map liD)), .un, .un]) liD (allL s.sizes s.c1) .int (fun _ => rngL 0 (s.c2 + 1).toNat) (fun l n => some (.tuple [liD l, .int n])) (by simp_arith) (by simp_arith) hlen (by simp [tgIx])
      fun l _ => ⟨[.sh s.d, .sh (.list ((allL s.sizes s.c1).map liD)), .sh (liD l), .un], by simp_arith, by unfold Su.d; simp_arith [hrg, rng_map], by simp_arith, fun n _ => by simp_arith⟩]
    rw [eve_d]
    rfl
  unfold f_all_comers c_all_comers
  have e : liD s.sizes = .tuple (intL s.sizes) := rfl
  rw [e] at hl
  unfold Su.d at *
  simp_arith [hcs, hl, x]
theorem law_comers_loop (s : Su) (h : s.ok) (ls : List (List Int)) (hl : ls.length ≤ 100) : forL (evalSs fuel x__law_all_comers__1_1) (.nm 2) [2] (ls.map liD) [.sh s.d, .ow (.list []), .un, .un] =
    .next [.sh s.d, .ow (rowD (ls.flatMap fun l => (rngL 0 (s.c2 + 1).toNat).map fun n => (⟨l, n⟩ : Cm))), .un, .un] := by
  have h2 := h.c2
  have hrg : RngOk (s.c2 + 1) := rngOk_small
  have key := forL_R (body := evalSs fuel x__law_all_comers__1_1) (tg := .nm 2) (fg := [2]) (fun q : List Cm => [.sh s.d, .ow (.list (q.map Cm.d)), .un, .un]) liD (fun q rest => ∃ pre, pre ++ rest = ls ∧ q = pre.flatMap fun l => (rngL 0 (s.c2 + 1).toNat).map fun n => (⟨l, n⟩ : Cm)) (fun q l rest ⟨pre, k1, k2⟩ => by
    subst k2
    have x : evalE x__law_all_comers__1_0 [.sh s.d, .ow (.list ((pre.flatMap fun l => (rngL 0 (s.c2 + 1).toNat).map fun n => (⟨l, n⟩ : Cm)).map Cm.d)), .sh (liD l), .un] =
        .ok (.ow (.list (((rngL 0 (s.c2 + 1).toNat).map fun n => (⟨l, n⟩ : Cm)).map Cm.d))) [.sh s.d, .ow (.list ((pre.flatMap fun l => (rngL 0 (s.c2 + 1).toNat).map fun n => (⟨l, n⟩ : Cm)).map Cm.d)), .sh (liD l), .un] := by
      unfold x__law_all_comers__1_0
      rw [lc_map' (ρ1 := [.sh s.d, .ow (.list ((pre.flatMap fun l => (rngL 0 (s.c2 + 1).toNat).map fun n => (⟨l, n⟩ : Cm)).map Cm.d)), .sh (liD l), .un]) .int (rngL 0 (s.c2 + 1).toNat) (fun n => .tuple [liD l, .int n]) (by unfold Su.d; simp_arith [hrg, rng_map]) (by simp_arith) (by rw [rngL_len]; omega) fun n _ => by simp_arith]
      rw [List.map_map]
      rfl
    have hlen : (pre.flatMap fun l => (rngL 0 (s.c2 + 1).toNat).map fun n => (⟨l, n⟩ : Cm)).length + (rngL 0 (s.c2 + 1).toNat).length ≤ 16777216 := by
      rw [flatN (n := (s.c2 + 1).toNat) (fun a => by rw [List.length_map, rngL_len]) pre, rngL_len]
      have h3 : pre.length ≤ 100 := by
        have : (pre ++ l :: rest).length = ls.length := by rw [k1]
        rw [List.length_append] at this
        omega
      have b : (s.c2 + 1).toNat ≤ 3 := by omega
      have := Nat.mul_le_mul h3 b
      omega
    have hs : Sm ((pre.flatMap fun l => (rngL 0 (s.c2 + 1).toNat).map fun n => (⟨l, n⟩ : Cm)).length + (rngL 0 (s.c2 + 1).toNat).length) := hlen
    refine ⟨(pre ++ [l]).flatMap fun l => (rngL 0 (s.c2 + 1).toNat).map fun n => (⟨l, n⟩ : Cm), ?_, pre ++ [l], by rw [← k1]; simp, rfl⟩
    unfold x__law_all_comers__1_1
    simp_arith [x, List.length_map, hs, ← List.map_append]
    simp [List.flatMap_append]) ls [] [.sh s.d, .ow (.list []), .un, .un] (by simp_arith) ⟨[], rfl, rfl⟩
  obtain ⟨q, e, pre, k1, k2⟩ := key
  rw [List.append_nil] at k1
  rw [e, k2, k1]
  rfl
theorem law_all_comers_ok (s : Su) (h : s.ok) : f__law_all_comers__1 [s.d] = .ok true (rowD (eveC s)) [] := by
  have h1 := h.c1
  have hl := law_lines_ok s.sizes h.z2 s.c1 (by omega) (by omega)
  have hn := allL_len h.z2 (m := s.c1) (by omega) (by omega)
  have e := law_comers_loop s h (allL s.sizes s.c1) (by omega)
  unfold f__law_all_comers__1 c__law_all_comers__1 x__law_all_comers__1_2
  have e0 : liD s.sizes = .tuple (intL s.sizes) := rfl
  rw [e0] at hl
  unfold Su.d at *
  simp_arith [hl, e]
  rfl
end
end Pg

end

-- MSame
section
/-! MSame: sorted lists of the same things are the same. -/
namespace Pg
open PySem L2 Ev
noncomputable section
def leD (a b : D) : Bool := PySem.W.dataLe false id a b
theorem leD_eq (a b : D) : leD a b = !PySem.W.dataLt b a := rfl
theorem leD_trans (a b c : D) (h1 : leD a b = true) (h2 : leD b c = true) : leD a c = true := by
  rw [leD_eq] at *
  rw [Bool.not_eq_true'] at *
  cases h : PySem.W.dataLt c a with
  | false => rfl
  | true =>
    rcases PyProof.Rows.lex_negTrans _ (PySem.W.keyToks b) _ h with q | q
    · rw [show PySem.W.dataLt c b = true from q] at h2; cases h2
    · rw [show PySem.W.dataLt b a = true from q] at h1; cases h1
theorem leD_total (a b : D) : (leD a b || leD b a) = true := by
  rw [leD_eq, leD_eq]
  cases h : PySem.W.dataLt b a with
  | false => rfl
  | true =>
    cases h2 : PySem.W.dataLt a b with
    | false => rfl
    | true =>
      have := PyProof.Rows.lex_trans _ _ _ h h2
      rw [PyProof.Rows.lex_irrefl] at this
      cases this
theorem leD_anti {n m : Nat} {a b : D} (ha : pl n a = true) (hb : pl m b = true) (hal : PySem.W.alike a b = true) (h1 : leD a b = true) (h2 : leD b a = true) : a = b := by
  rw [leD_eq] at h1 h2
  rw [Bool.not_eq_true'] at h1 h2
  have he : PySem.W.keyToks a = PySem.W.keyToks b := PyProof.Rows.lex_total _ _ h2 h1
  cases hv : PyData.eqv a b with
  | true => exact (eqv_pl a b ha hb).mp hv
  | false =>
    have t := (PySem.W.toks_eqv a b hal).2 hv
    have t1 := t [] [.inl 0]
    have t2 := t [] []
    rw [he, PySem.W.lex_pre] at t1 t2
    rw [← t2] at t1
    cases t1
theorem srtBy_pw {α : Type} (f : α → D) (xs : List α) : (srtBy f xs).Pairwise fun a b => leD (f a) (f b) = true :=
  List.pairwise_mergeSort (le := fun a b => leD (f a) (f b)) (fun a b c h1 h2 => leD_trans _ _ _ h1 h2) (fun a b => leD_total _ _) xs
theorem srt_same {α : Type} {f : α → D} (hf : ∀ a b, f a = f b → a = b) (n : Nat) (hp : ∀ a, pl n (f a) = true) (hal : ∀ a b, PySem.W.alike (f a) (f b) = true) {xs ys : List α} (h1 : xs.Nodup) (h2 : ys.Nodup) (h : ∀ a, a ∈ xs ↔ a ∈ ys) : srtBy f xs = srtBy f ys := by
  refine List.Perm.eq_of_pairwise (le := fun a b => leD (f a) (f b) = true) (fun a b _ _ g1 g2 => hf _ _ (leD_anti (hp a) (hp b) (hal a b) g1 g2)) (srtBy_pw f xs) (srtBy_pw f ys) ?_
  exact ((List.mergeSort_perm xs _).trans ((List.perm_ext_iff_of_nodup h1 h2).mpr fun {a} => h a)).trans (List.mergeSort_perm ys _).symm
end
end Pg

end

-- MSu
section
/-! MSu: which objects are setups. -/
namespace Pg
open PySem L2 Ev
noncomputable section
local macro_rules | `(tactic| simp_arith [$ls,*]) => `(tactic| simp (config := { decide := false }) only [run_fin, Def.start, parSl, Option.map_some, List.replicate, List.cons_append, List.nil_append, List.append_nil, evalSs, evalS, evalE, ↓turn_def, ↓wturn_def, cl_next, cl_cnt, cl_brk, cl_ret, cl_exc, cl_bad, cl_ite, ↓lcC_def, evalEs, evalB, evalAs, evalT, evalTs, evalO, evalI, evalC, bind_ok', bind_bad', bind_exc', bind_ite, out_ok', out_bad', out_exc', out_ite, seq_next, seq_ret, seq_brk, seq_cnt, seq_exc, seq_bad, seq_ite, fin_next, fin_ret, fin_bad, fin_exc, fin_ite, nextO, op1, op2, ↓op2b_def, opN, giveT, getAll, Tm.get, Tm.esc, slot, Sl.get, share, take, takeAll, mkT, truOf, truD, cmpB, cmpD, ordD, binD, negD, notD, idxD, slcD, revD, biD, isiD, isD, isNone, ↓lcT_def, onTg, clr, rst, Res.noExc, List.map_cons, List.map_nil, List.all_cons, List.all_nil, plainAt, Sl.plain, Bool.and_true, Bool.and_self, tgIx, tgsIx, itemsOf, asgS, asgTg, asgTgs, Sl.opt, iosOf, endRet, doCall, doCallN, doCallB, isScal, lsetD, arGet, arIos, putIos, putIo, chgI, chgE, setAt, appAt, extAt, ownL, newL, newT, exAt, setX, noEx, Sl.notEx, evalHs, popE, popIx, augD, parS, eqD_int, eqD_str, at0, at1, at2, at3, at4, at5, w_group_group, w_group_single, w_group_part, w_group_go, w_single_group, w_single_single, w_single_part, w_single_go, w_part_group, w_part_single, w_part_part, w_part_go, w_go_group, w_go_single, w_go_part, w_go_go, sm0, sm1, sm2, sm3, sm4, sm5, sm6, sm7, sm8, sm9, sm10, sm11, sm12, sm13, sm14, sm15, sm16, sm17, sm18, sm19, sm20, sm21, sm22, sm23, sm24, sm25, sm26, sm27, sm28, sm29, sm30, sm31, sm32, sm33, sm34, sm35, sm36, sm37, sm38, sm39, sm40, List.getElem?_cons_zero, List.getElem?_cons_succ, List.set_cons_zero, List.set_cons_succ, List.nodup_nil, if_true, if_false, Bool.not_true, Bool.not_false, ↓reduceIte, Bool.false_eq_true, decide_eq_true_eq, List.nodup_cons, List.not_mem_nil, not_false_eq_true, and_self, true_and, and_true, Option.bind_some, Option.isSome_some, Option.getD_some, reduceCtorEq, decide_true, decide_false, Int.reduceLE, Int.reduceLT, Int.reduceEq, Int.reduceNe, Int.reduceAdd, Int.reduceSub, Int.reduceNeg, Nat.reduceAdd, Nat.reduceLeDiff, Int.cast_ofNat_Int, eq_self, List.length_cons, List.length_nil, Nat.zero_add, $ls,*])
local macro_rules | `(tactic| simp_arith) => `(tactic| simp (config := { decide := false }) only [run_fin, Def.start, parSl, Option.map_some, List.replicate, List.cons_append, List.nil_append, List.append_nil, evalSs, evalS, evalE, ↓turn_def, ↓wturn_def, cl_next, cl_cnt, cl_brk, cl_ret, cl_exc, cl_bad, cl_ite, ↓lcC_def, evalEs, evalB, evalAs, evalT, evalTs, evalO, evalI, evalC, bind_ok', bind_bad', bind_exc', bind_ite, out_ok', out_bad', out_exc', out_ite, seq_next, seq_ret, seq_brk, seq_cnt, seq_exc, seq_bad, seq_ite, fin_next, fin_ret, fin_bad, fin_exc, fin_ite, nextO, op1, op2, ↓op2b_def, opN, giveT, getAll, Tm.get, Tm.esc, slot, Sl.get, share, take, takeAll, mkT, truOf, truD, cmpB, cmpD, ordD, binD, negD, notD, idxD, slcD, revD, biD, isiD, isD, isNone, ↓lcT_def, onTg, clr, rst, Res.noExc, List.map_cons, List.map_nil, List.all_cons, List.all_nil, plainAt, Sl.plain, Bool.and_true, Bool.and_self, tgIx, tgsIx, itemsOf, asgS, asgTg, asgTgs, Sl.opt, iosOf, endRet, doCall, doCallN, doCallB, isScal, lsetD, arGet, arIos, putIos, putIo, chgI, chgE, setAt, appAt, extAt, ownL, newL, newT, exAt, setX, noEx, Sl.notEx, evalHs, popE, popIx, augD, parS, eqD_int, eqD_str, at0, at1, at2, at3, at4, at5, w_group_group, w_group_single, w_group_part, w_group_go, w_single_group, w_single_single, w_single_part, w_single_go, w_part_group, w_part_single, w_part_part, w_part_go, w_go_group, w_go_single, w_go_part, w_go_go, sm0, sm1, sm2, sm3, sm4, sm5, sm6, sm7, sm8, sm9, sm10, sm11, sm12, sm13, sm14, sm15, sm16, sm17, sm18, sm19, sm20, sm21, sm22, sm23, sm24, sm25, sm26, sm27, sm28, sm29, sm30, sm31, sm32, sm33, sm34, sm35, sm36, sm37, sm38, sm39, sm40, List.getElem?_cons_zero, List.getElem?_cons_succ, List.set_cons_zero, List.set_cons_succ, List.nodup_nil, if_true, if_false, Bool.not_true, Bool.not_false, ↓reduceIte, Bool.false_eq_true, decide_eq_true_eq, List.nodup_cons, List.not_mem_nil, not_false_eq_true, and_self, true_and, and_true, Option.bind_some, Option.isSome_some, Option.getD_some, reduceCtorEq, decide_true, decide_false, Int.reduceLE, Int.reduceLT, Int.reduceEq, Int.reduceNe, Int.reduceAdd, Int.reduceSub, Int.reduceNeg, Nat.reduceAdd, Nat.reduceLeDiff, Int.cast_ofNat_Int, eq_self, List.length_cons, List.length_nil, Nat.zero_add])
def IsSu (d : D) : Prop := ∃ s : Su, d = s.d ∧ s.ok
instance (d : D) : Decidable (IsSu d) := Classical.propDecidable _
def two (lo hi m : Int) : D → Bool
  | .tuple [.int a, .int b] => decide (0 ≤ a ∧ a ≤ 9) && decide (0 ≤ b ∧ b ≤ 9) && decide (lo ≤ a ∧ a ≤ hi) && decide (b ≤ m)
  | _ => false
theorem areN2 {lo hi : Int} {d : D} : areN 2 2 lo hi d = true → ∃ a b : Int, d = .tuple [.int a, .int b] ∧ lo ≤ a ∧ a ≤ hi ∧ lo ≤ b ∧ b ≤ hi := fun h => by
  obtain ⟨ns, rfl, h1, h2, h3⟩ := areN_iff.mp h
  match ns, h1, h2, h3 with
  | [a, b], _, _, h3 =>
    have x := h3 a (by simp)
    have y := h3 b (by simp)
    exact ⟨a, b, rfl, x.1, x.2, y.1, y.2⟩
  | [], h1, _, _ => simp at h1
  | [a], h1, _, _ => simp at h1
  | a :: b :: c :: r, _, h2, _ => simp only [List.length_cons] at h2; omega
theorem are_most_any (d : D) (lo hi m : Int) : f_are_most [d, .int lo, .int hi, .int m] = .ok false (.bool (two lo hi m d)) [] := by
  have e := are_numbers_any d 2 2 0 9 (by decide)
  unfold f_are_most c_are_most
  cases h : areN 2 2 0 9 d with
  | false =>
    rw [h] at e
    have ht : two lo hi m d = false := by
      unfold two
      split
      · rename_i a b
        have : areN 2 2 0 9 (.tuple [.int a, .int b]) = (decide (0 ≤ a ∧ a ≤ 9) && decide (0 ≤ b ∧ b ≤ 9)) := by
          unfold areN
          simp [num]
        rw [this] at h
        rw [h]
        rfl
      · rfl
    rw [ht]
    simp_arith [e]
  | true =>
    rw [h] at e
    obtain ⟨a, b, rfl, h1, h2, h3, h4⟩ := areN2 h
    have ht : two lo hi m (.tuple [.int a, .int b]) = (decide (lo ≤ a ∧ a ≤ hi) && decide (b ≤ m)) := by
      show (decide (0 ≤ a ∧ a ≤ 9) && decide (0 ≤ b ∧ b ≤ 9) && decide (lo ≤ a ∧ a ≤ hi) && decide (b ≤ m)) = _
      rw [decide_eq_true ⟨h1, h2⟩, decide_eq_true ⟨h3, h4⟩]
      rfl
    rw [ht]
    simp_arith [e]
    by_cases c1 : lo ≤ a <;> by_cases c2 : a ≤ hi <;> simp [c1, c2, endRet, iosOf, fin]
theorem isSu_parts {a b c e : D} (h : IsSu (.tuple [a, b, c, e])) : areN 1 2 1 5 a = true ∧ (∃ ns : List Int, b = .tuple (intL ns) ∧ 1 ≤ ns.length ∧ ns.length ≤ 3 ∧ (∀ n ∈ ns, 1 ≤ n ∧ n ≤ 5) ∧ ups ns = true) ∧ two 1 3 4 c = true ∧ two 0 2 2 e = true := by
  obtain ⟨s, hd, hs⟩ := h
  unfold Su.d at hd
  simp only [PyData.tuple.injEq, List.cons.injEq, and_true] at hd
  obtain ⟨rfl, rfl, rfl, rfl⟩ := hd
  refine ⟨areN_iff.mpr ⟨s.seats, rfl, by have := hs.s1; omega, by have := hs.s2; omega, hs.s3⟩, ⟨s.sizes, rfl, hs.z1, hs.z2, hs.z3, hs.z4⟩, ?_, ?_⟩
  · have h1 := hs.r1
    have h2 := hs.r2
    show (decide (0 ≤ s.r1 ∧ s.r1 ≤ 9) && decide (0 ≤ s.r2 ∧ s.r2 ≤ 9) && decide (1 ≤ s.r1 ∧ s.r1 ≤ 3) && decide (s.r2 ≤ 4)) = true
    simp only [Bool.and_eq_true, decide_eq_true_eq]
    omega
  · have h1 := hs.c1
    have h2 := hs.c2
    show (decide (0 ≤ s.c1 ∧ s.c1 ≤ 9) && decide (0 ≤ s.c2 ∧ s.c2 ≤ 9) && decide (0 ≤ s.c1 ∧ s.c1 ≤ 2) && decide (s.c2 ≤ 2)) = true
    simp only [Bool.and_eq_true, decide_eq_true_eq]
    omega
theorem two_of {lo hi m : Int} {d : D} (h : two lo hi m d = true) : ∃ a b : Int, d = .tuple [.int a, .int b] ∧ lo ≤ a ∧ a ≤ hi ∧ 0 ≤ b ∧ b ≤ m := by
  unfold two at h
  split at h
  · rename_i a b
    simp only [Bool.and_eq_true, decide_eq_true_eq] at h
    exact ⟨a, b, rfl, by omega, by omega, by omega, by omega⟩
  · cases h
theorem isSu_of {a c e : D} {ns : List Int} (h1 : areN 1 2 1 5 a = true) (z1 : 1 ≤ ns.length) (z2 : ns.length ≤ 3) (z3 : ∀ n ∈ ns, 1 ≤ n ∧ n ≤ 5) (z4 : ups ns = true) (h3 : two 1 3 4 c = true) (h4 : two 0 2 2 e = true) : IsSu (.tuple [a, .tuple (intL ns), c, e]) := by
  obtain ⟨ms, rfl, s1, s2, s3⟩ := areN_iff.mp h1
  obtain ⟨r1, r2, rfl, a1, a2, a3, a4⟩ := two_of h3
  obtain ⟨c1, c2, rfl, b1, b2, b3, b4⟩ := two_of h4
  exact ⟨⟨ms, ns, r1, r2, c1, c2⟩, rfl, ⟨by simp only; omega, by simp only; omega, s3, z1, z2, z3, z4, ⟨a1, a2⟩, ⟨a3, a4⟩, ⟨b1, b2⟩, ⟨b3, b4⟩⟩⟩
theorem not_isSu {d : D} (h : ∀ s : Su, d ≠ s.d) : decide (IsSu d) = false := decide_eq_false fun ⟨s, e, _⟩ => h s e
theorem is_setup_any (d : D) : f_is_setup [d] = .ok false (.bool (decide (IsSu d))) [] := by
  cases d with
  | tuple ds =>
    by_cases hl : ds.length = 4
    · obtain ⟨a, b, c, e, rfl⟩ : ∃ a b c e, ds = [a, b, c, e] := by
        match ds, hl with
        | [a, b, c, e], _ => exact ⟨a, b, c, e, rfl⟩
      have n1 := are_numbers_any a 1 2 1 5 (by decide)
      have n2 := are_numbers_any b 1 3 1 5 (by decide)
      have m1 := are_most_any c 1 3 4
      have m2 := are_most_any e 0 2 2
      cases h1 : areN 1 2 1 5 a with
      | false =>
        rw [decide_eq_false fun h => by rw [(isSu_parts h).1] at h1; cases h1]
        rw [h1] at n1
        unfold f_is_setup c_is_setup
        simp_arith [n1]
      | true =>
        rw [h1] at n1
        cases h2 : areN 1 3 1 5 b with
        | false =>
          rw [decide_eq_false fun h => by
            obtain ⟨ns, rfl, z1, z2, z3, _⟩ := (isSu_parts h).2.1
            rw [areN_iff.mpr ⟨ns, rfl, by omega, by omega, z3⟩] at h2
            cases h2]
          rw [h2] at n2
          unfold f_is_setup c_is_setup
          simp_arith [n1, n2]
        | true =>
          rw [h2] at n2
          obtain ⟨ns, rfl, z1, z2, z3⟩ := areN_iff.mp h2
          have hz : ns ≠ [] := fun q => by rw [q] at z1; simp at z1
          cases h4 : ups ns with
          | false =>
            rw [decide_eq_false fun h => by
              obtain ⟨ms, q, _, _, _, u⟩ := (isSu_parts h).2.1
              simp only [PyData.tuple.injEq, intL_inj] at q
              rw [q, u] at h4
              cases h4]
            unfold f_is_setup c_is_setup
            simp_arith [n1, n2, x_is_setup_ok _ _ _ _ ns (by omega) hz, boolsOf_map, all_map_id, ups_all, h4]
          | true =>
            cases h5 : two 1 3 4 c with
            | false =>
              rw [decide_eq_false fun h => by rw [(isSu_parts h).2.2.1] at h5; cases h5]
              rw [h5] at m1
              unfold f_is_setup c_is_setup
              simp_arith [n1, n2, x_is_setup_ok _ _ _ _ ns (by omega) hz, boolsOf_map, all_map_id, ups_all, h4, m1]
            | true =>
              rw [h5] at m1
              cases h6 : two 0 2 2 e with
              | false =>
                rw [decide_eq_false fun h => by rw [(isSu_parts h).2.2.2] at h6; cases h6]
                rw [h6] at m2
                unfold f_is_setup c_is_setup
                simp_arith [n1, n2, x_is_setup_ok _ _ _ _ ns (by omega) hz, boolsOf_map, all_map_id, ups_all, h4, m1, m2]
              | true =>
                rw [decide_eq_true (isSu_of h1 (by omega) (by omega) z3 h4 h5 h6)]
                rw [h6] at m2
                unfold f_is_setup c_is_setup
                simp_arith [n1, n2, x_is_setup_ok _ _ _ _ ns (by omega) hz, boolsOf_map, all_map_id, ups_all, h4, m1, m2]
    · rw [not_isSu fun s q => hl (by unfold Su.d at q; cases q; rfl)]
      have h4 : ¬ ((ds.length : Int) = 4) := by omega
      unfold f_is_setup c_is_setup
      simp_arith [h4]
  | _ =>
    rw [not_isSu fun s q => by unfold Su.d at q; cases q]
    unfold f_is_setup c_is_setup
    simp_arith
theorem check_setup_any (d : D) : f_check_setup [d] = if IsSu d then .ok false .none [] else .exc ⟨"BadSetup", []⟩ [] := by
  have e := is_setup_any d
  unfold f_check_setup c_check_setup
  by_cases h : IsSu d
  · rw [if_pos h]
    rw [decide_eq_true h] at e
    simp_arith [e]
  · rw [if_neg h]
    rw [decide_eq_false h] at e
    simp_arith [e]
/-! ### by the law -/
theorem sr_inner (d0 p : D) (a b c e : Sl) (ds : List D) : (ds.all (num 0 5) = true ∧ forL (evalSs fuel x__law_setup_right_0) (.nm 2) [2] ds [.sh d0, .sh p, .un, a, b, c, e] = .next [.sh d0, .sh p, .un, a, b, c, e]) ∨
    (ds.all (num 0 5) = false ∧ ∃ σ, forL (evalSs fuel x__law_setup_right_0) (.nm 2) [2] ds [.sh d0, .sh p, .un, a, b, c, e] = .ret (.sh (.bool false)) (.sh d0 :: σ)) := by
  induction ds with
  | nil => exact .inl ⟨rfl, by rw [forL_nil]; rfl⟩
  | cons x xs ih =>
    have hc0 : clr [Sl.sh d0, .sh p, .un, a, b, c, e] [2] = [Sl.sh d0, .sh p, .un, a, b, c, e] := rfl
    rw [forL_cons, hc0]
    have w := law_whole_any x 0 5
    cases hn : num 0 5 x with
    | true =>
      rw [hn] at w
      have ht : turn (evalSs fuel x__law_setup_right_0) (.nm 2) [2] x [.sh d0, .sh p, .un, a, b, c, e] = .next [.sh d0, .sh p, .un, a, b, c, e] := by
        unfold x__law_setup_right_0
        simp_arith [w]
      rw [ht, List.all_cons, hn, Bool.true_and]
      exact ih
    | false =>
      rw [hn] at w
      have ht : turn (evalSs fuel x__law_setup_right_0) (.nm 2) [2] x [.sh d0, .sh p, .un, a, b, c, e] = .ret (.sh (.bool false)) [.sh d0, .sh p, .sh x, a, b, c, e] := by
        unfold x__law_setup_right_0
        simp_arith [w]
      rw [ht, List.all_cons, hn, Bool.false_and]
      exact .inr ⟨rfl, _, rfl⟩
theorem sr_outer (d0 : D) (a b c e : Sl) (ds : List D) : (ds.all (areN 0 3 0 5) = true ∧ forL (evalSs fuel x__law_setup_right_2) (.nm 1) [1, 2] ds [.sh d0, .un, .un, a, b, c, e] = .next [.sh d0, .un, .un, a, b, c, e]) ∨
    (ds.all (areN 0 3 0 5) = false ∧ ∃ σ, forL (evalSs fuel x__law_setup_right_2) (.nm 1) [1, 2] ds [.sh d0, .un, .un, a, b, c, e] = .ret (.sh (.bool false)) (.sh d0 :: σ)) := by
  induction ds with
  | nil => exact .inl ⟨rfl, by rw [forL_nil]; rfl⟩
  | cons x xs ih =>
    have hc0 : clr [Sl.sh d0, .un, .un, a, b, c, e] [1, 2] = [Sl.sh d0, .un, .un, a, b, c, e] := rfl
    rw [forL_cons, hc0]
    by_cases hx : ∃ ys, x = .tuple ys
    · obtain ⟨ys, rfl⟩ := hx
      by_cases hl : (3 : Int) < (ys.length : Int)
      · have hn : areN 0 3 0 5 (.tuple ys) = false := by
          show (decide (0 ≤ (ys.length : Int) ∧ (ys.length : Int) ≤ 3) && ys.all (num 0 5)) = false
          rw [decide_eq_false (by omega)]
          rfl
        have ht : turn (evalSs fuel x__law_setup_right_2) (.nm 1) [1, 2] (.tuple ys) [.sh d0, .un, .un, a, b, c, e] = .ret (.sh (.bool false)) [.sh d0, .sh (.tuple ys), .un, a, b, c, e] := by
          unfold x__law_setup_right_2
          simp_arith [hl]
        rw [ht, List.all_cons, hn, Bool.false_and]
        exact .inr ⟨rfl, _, rfl⟩
      · have hn : areN 0 3 0 5 (.tuple ys) = ys.all (num 0 5) := by
          show (decide (0 ≤ (ys.length : Int) ∧ (ys.length : Int) ≤ 3) && ys.all (num 0 5)) = _
          rw [decide_eq_true (by omega)]
          rfl
        rcases sr_inner d0 (.tuple ys) a b c e ys with ⟨h1, h2⟩ | ⟨h1, σ, h2⟩
        · have ht : turn (evalSs fuel x__law_setup_right_2) (.nm 1) [1, 2] (.tuple ys) [.sh d0, .un, .un, a, b, c, e] = .next [.sh d0, .un, .un, a, b, c, e] := by
            unfold x__law_setup_right_2 x__law_setup_right_1
            simp_arith [hl, h2]
          rw [ht, List.all_cons, hn, h1, Bool.true_and]
          exact ih
        · have ht : turn (evalSs fuel x__law_setup_right_2) (.nm 1) [1, 2] (.tuple ys) [.sh d0, .un, .un, a, b, c, e] = .ret (.sh (.bool false)) (.sh d0 :: σ) := by
            unfold x__law_setup_right_2 x__law_setup_right_1
            simp_arith [hl, h2]
          rw [ht, List.all_cons, hn, h1, Bool.false_and]
          exact .inr ⟨rfl, _, rfl⟩
    · have hn : areN 0 3 0 5 x = false := by
        cases x with
        | tuple ys => exact absurd ⟨ys, rfl⟩ hx
        | _ => rfl
      have ht : turn (evalSs fuel x__law_setup_right_2) (.nm 1) [1, 2] x [.sh d0, .un, .un, a, b, c, e] = .ret (.sh (.bool false)) [.sh d0, .sh x, .un, a, b, c, e] := by
        unfold x__law_setup_right_2
        cases x with
        | tuple ys => exact absurd ⟨ys, rfl⟩ hx
        | _ => simp_arith
      rw [ht, List.all_cons, hn, Bool.false_and]
      exact .inr ⟨rfl, _, rfl⟩
theorem ups_pw : ∀ ns : List Int, ups ns = true ↔ ns.Pairwise (· < ·)
  | [] => by simp [ups]
  | [a] => by simp [ups]
  | a :: b :: r => by
    have ih := ups_pw (b :: r)
    show (decide (a < b) && ups (b :: r)) = true ↔ _
    rw [Bool.and_eq_true, ih, decide_eq_true_eq, List.pairwise_cons (a := a)]
    constructor
    · rintro ⟨h1, h2⟩
      refine ⟨fun x hx => ?_, h2⟩
      rcases List.mem_cons.mp hx with rfl | hx
      · exact h1
      · have := (List.pairwise_cons.mp h2).1 x hx
        omega
    · rintro ⟨h1, h2⟩
      exact ⟨h1 b List.mem_cons_self, h2⟩
theorem leD_int (a b : Int) : leD (.int a) (.int b) = decide (a ≤ b) := by
  rw [leD_eq, PySem.W.dataLt_int, PySem.W.not_lt_int]
theorem srt_ints (ns : List Int) : srtL (intL ns) = intL (srtBy .int ns) := srtL_map .int ns
theorem srt_fix (ns : List Int) : srtBy PyData.int ns = ns ↔ ns.Pairwise (· ≤ ·) := by
  constructor
  · intro h
    have := srtBy_pw PyData.int ns
    rw [h] at this
    exact this.imp fun hab => by rw [leD_int] at hab; exact of_decide_eq_true hab
  · intro h
    refine List.Perm.eq_of_pairwise (le := fun a b : Int => a ≤ b) (fun a b _ _ g1 g2 => by omega) ?_ h (List.mergeSort_perm ns _)
    exact (srtBy_pw PyData.int ns).imp fun hab => by rw [leD_int] at hab; exact of_decide_eq_true hab
theorem dst_len {ns : List Int} : (dstL ns).length = ns.length ↔ ns.Nodup := by
  have m2 : ∀ x, x ∈ dstL ns ↔ x ∈ ns := fun x => (dst_mem ns []).trans (by simp)
  have n2 : (dstL ns).Nodup := dst_nodup ns [] (by simp)
  constructor
  · intro h
    have key : ∀ {l m : List Int}, l.Nodup → (∀ x ∈ l, x ∈ m) → l.length = m.length → l.Perm m := by
      intro l
      induction l with
      | nil => intro m _ _ hl; rw [List.eq_nil_of_length_eq_zero (l := m) (by simpa using hl.symm)]
      | cons a l ih =>
        intro m hn hs hl
        obtain ⟨h1, h2⟩ := List.nodup_cons.mp hn
        have ha := hs a List.mem_cons_self
        have hp : 0 < m.length := List.length_pos_of_mem ha
        have := ih (m := m.erase a) h2 (fun y hy => (List.mem_erase_of_ne (fun e => h1 (by rw [← e]; exact hy))).mpr (hs y (List.mem_cons_of_mem _ hy))) (by rw [List.length_erase_of_mem ha]; rw [List.length_cons] at hl; omega)
        exact (List.Perm.cons a this).trans (List.perm_cons_erase ha).symm
    exact (key n2 (fun x hx => (m2 x).mp hx) h).nodup n2
  · intro h
    have a1 := nodup_le' h fun x hx => (m2 x).mpr hx
    have a2 := nodup_le' n2 fun x hx => (m2 x).mp hx
    omega
theorem ups_iff (ns : List Int) : ups ns = true ↔ srtBy PyData.int ns = ns ∧ (dstL ns).length = ns.length := by
  rw [ups_pw, srt_fix, dst_len]
  constructor
  · intro h
    exact ⟨h.imp fun hab => by omega, h.imp fun hab => by omega⟩
  · rintro ⟨h1, h2⟩
    exact h1.imp₂ (fun a b hab hne => by have : a ≠ b := hne; omega) h2
structure SuI (as bs cs es : List Int) : Prop where
  a : as.length = 1 ∨ as.length = 2
  a5 : ∀ n ∈ as, 1 ≤ n ∧ n ≤ 5
  b : bs ≠ []
  b3 : bs.length ≤ 3
  b5 : ∀ n ∈ bs, 1 ≤ n ∧ n ≤ 5
  u : ups bs = true
  c : ∃ r1 r2 : Int, cs = [r1, r2] ∧ (1 ≤ r1 ∧ r1 ≤ 3) ∧ (0 ≤ r2 ∧ r2 ≤ 4)
  e : ∃ c1 c2 : Int, es = [c1, c2] ∧ (0 ≤ c1 ∧ c1 ≤ 2) ∧ (0 ≤ c2 ∧ c2 ≤ 2)
theorem isSu_ints {as bs cs es : List Int} : IsSu (.tuple [.tuple (intL as), .tuple (intL bs), .tuple (intL cs), .tuple (intL es)]) ↔ SuI as bs cs es := by
  constructor
  · rintro ⟨s, hd, hs⟩
    unfold Su.d at hd
    simp only [PyData.tuple.injEq, List.cons.injEq, and_true, intL_inj] at hd
    obtain ⟨rfl, rfl, h3, h4⟩ := hd
    have h3' : cs = [s.r1, s.r2] := intL_inj.mp h3
    have h4' : es = [s.c1, s.c2] := intL_inj.mp h4
    have z1 := hs.z1
    refine ⟨by have := hs.s1; have := hs.s2; omega, hs.s3, fun q => by rw [q] at z1; simp at z1, hs.z2, hs.z3, hs.z4, ⟨_, _, h3', hs.r1, hs.r2⟩, ⟨_, _, h4', hs.c1, hs.c2⟩⟩
  · rintro ⟨h1, h2, h3, h4, h5, h6, ⟨r1, r2, rfl, h7, h8⟩, ⟨c1, c2, rfl, h9, h10⟩⟩
    have z : 0 < bs.length := List.length_pos_iff.mpr h3
    exact ⟨⟨as, bs, r1, r2, c1, c2⟩, rfl, ⟨by rcases h1 with h | h <;> (simp only; omega), by rcases h1 with h | h <;> (simp only; omega), h2, z, h4, h5, h6, h7, h8, h9, h10⟩⟩
theorem sortOk_ints {ns : List Int} (h : ns.length ≤ 1000) : SortOk (intL ns) := by
  refine ⟨by rw [intL_len, ← line_eq]; omega, fun a ha b hb => ?_, fun d hd => ?_, .inl ?_⟩
  · obtain ⟨x, _, rfl⟩ := List.mem_map.mp ha
    obtain ⟨y, _, rfl⟩ := List.mem_map.mp hb
    simp [PySem.W.alike]
  · obtain ⟨x, _, rfl⟩ := List.mem_map.mp hd
    exact ⟨by simp [PyData.canLay0], by simp [PyData.depth]⟩
  · exact PySem.W.Sortable.others (enc := PyData.int) fun b => ⟨by simp, by simp⟩
theorem law_setup_right_any (d : D) : f__law_setup_right [d] = .ok false (.bool (decide (IsSu d))) [] := by
  cases d with
  | tuple ds =>
    by_cases hl : ds.length = 4
    · obtain ⟨a, b, c, e, rfl⟩ : ∃ a b c e, ds = [a, b, c, e] := by
        match ds, hl with
        | [a, b, c, e], _ => exact ⟨a, b, c, e, rfl⟩
      rcases sr_outer (.tuple [a, b, c, e]) .un .un .un .un [a, b, c, e] with ⟨h1, h2⟩ | ⟨h1, σ, h2⟩
      · simp only [List.all_cons, List.all_nil, Bool.and_true, Bool.and_eq_true] at h1
        obtain ⟨x1, x2, x3, x4⟩ := h1
        obtain ⟨as, rfl, a0, a3, a5⟩ := areN_iff.mp x1
        obtain ⟨bs, rfl, b0, b3, b5⟩ := areN_iff.mp x2
        obtain ⟨cs, rfl, c0, c3, c5⟩ := areN_iff.mp x3
        obtain ⟨es, rfl, e0, e3, e5⟩ := areN_iff.mp x4
        have no : ¬ SuI as bs cs es → decide (IsSu (.tuple [.tuple (intL as), .tuple (intL bs), .tuple (intL cs), .tuple (intL es)])) = false := fun h => decide_eq_false fun q => h (isSu_ints.mp q)
        have q1 : inD (.int (as.length : Int)) (.tuple [.int 1, .int 2]) = some (decide (as.length = 1 ∨ as.length = 2)) := by
          rw [(inD_pl (x := .int (as.length : Int)) (ds := [.int 1, .int 2]) 5 pl_int (by simp only [pls_cons, pl_int, pls_nil, Bool.and_self])).2]
          congr 1
          simp only [List.mem_cons, PyData.int.injEq, List.not_mem_nil, or_false]
          exact decide_eq_decide.mpr ⟨fun h => by omega, fun h => by omega⟩
        have z : ∀ ns : List Int, inD (.int 0) (.tuple (intL ns)) = some (decide ((0 : Int) ∈ ns)) := fun ns => by
          rw [(inD_pl (x := .int 0) (ds := intL ns) 5 pl_int pls_intL).2]
          congr 1
          exact decide_eq_decide.mpr mem_intL
        have q3 := eqD_nilT bs
        have q5 : eqD (.list (intL bs)) (.list (intL (srtBy PyData.int bs))) = some (decide (bs = srtBy PyData.int bs)) := by
          rw [eqD_pl 5 (by rw [pl_lst]; exact pls_intL) (by rw [pl_lst]; exact pls_intL)]
          congr 1
          exact decide_eq_decide.mpr ⟨fun h => intL_inj.mp (by simpa using h), fun h => by rw [← h]⟩
        have so := sortOk_ints (ns := bs) (by omega)
        have sl := srt_ints bs
        have zz : ∀ {ns : List Int}, (∀ n ∈ ns, 0 ≤ n ∧ n ≤ 5) → (0 : Int) ∉ ns → ∀ n ∈ ns, 1 ≤ n ∧ n ≤ 5 := fun h h0 n hn => by
          have := h n hn
          have : n ≠ 0 := fun q => h0 (by rw [← q]; exact hn)
          omega
        unfold f__law_setup_right c__law_setup_right x__law_setup_right_3
        by_cases p1 : as.length = 1 ∨ as.length = 2
        · rw [decide_eq_true p1] at q1
          by_cases p2 : (0 : Int) ∈ as
          · have z1 := z as
            rw [decide_eq_true p2] at z1
            rw [no fun h => by have := h.a5 0 p2; omega]
            simp_arith [h2, intL_len, q1, z1]
          · have z1 := z as
            rw [decide_eq_false p2] at z1
            by_cases p3 : bs = []
            · rw [decide_eq_true p3] at q3
              rw [no fun h => h.b p3]
              simp_arith [h2, intL_len, q1, z1, q3]
            · rw [decide_eq_false p3] at q3
              by_cases p4 : (0 : Int) ∈ bs
              · have z2 := z bs
                rw [decide_eq_true p4] at z2
                rw [no fun h => by have := h.b5 0 p4; omega]
                simp_arith [h2, intL_len, q1, z1, q3, z2]
              · have z2 := z bs
                rw [decide_eq_false p4] at z2
                by_cases p5 : bs = srtBy PyData.int bs
                · rw [decide_eq_true p5] at q5
                  have hb1 : bs.length ≤ 1000 := by omega
                  by_cases p6 : (dstL bs).length = bs.length
                  · have p6' : ((dstL bs).length : Int) = (bs.length : Int) := by omega
                    have hu : ups bs = true := (ups_iff bs).mpr ⟨p5.symm, p6⟩
                    by_cases p7 : cs.length = 2
                    · by_cases p8 : es.length = 2
                      · obtain ⟨r1, r2, rfl⟩ : ∃ r1 r2, cs = [r1, r2] := by
                          match cs, p7 with
                          | [a, b], _ => exact ⟨a, b, rfl⟩
                        obtain ⟨k1, k2, rfl⟩ : ∃ k1 k2, es = [k1, k2] := by
                          match es, p8 with
                          | [a, b], _ => exact ⟨a, b, rfl⟩
                        have i1 := c5 r1 (by simp)
                        have i2 := c5 r2 (by simp)
                        have i3 := e5 k1 (by simp)
                        have i4 := e5 k2 (by simp)
                        have hiff : decide (IsSu (.tuple [.tuple (intL as), .tuple (intL bs), .tuple (intL [r1, r2]), .tuple (intL [k1, k2])])) = (decide (1 ≤ r1) && decide (r1 ≤ 3) && decide (r2 ≤ 4) && decide (k1 ≤ 2) && decide (k2 ≤ 2)) := by
                          rw [Bool.eq_iff_iff, decide_eq_true_eq, isSu_ints]
                          simp only [Bool.and_eq_true, decide_eq_true_eq]
                          constructor
                          · rintro ⟨_, _, _, _, _, _, ⟨_, _, h7, h8, h9⟩, ⟨_, _, h10, h11, h12⟩⟩
                            cases h7
                            cases h10
                            omega
                          · intro h
                            exact ⟨p1, zz a5 p2, p3, by omega, zz b5 p4, hu, ⟨_, _, rfl, by omega, by omega⟩, ⟨_, _, rfl, by omega, by omega⟩⟩
                        rw [hiff]
                        simp only [show intL [r1, r2] = [PyData.int r1, .int r2] from rfl, show intL [k1, k2] = [PyData.int k1, .int k2] from rfl] at *
                        simp_arith [h2, intL_len, q1, z1, q3, z2, so, sl, q5, intsOf_intL, hb1, p6', List.length_cons, List.length_nil]
                        (by_cases d1 : 1 ≤ r1 <;> by_cases d2 : r1 ≤ 3 <;> by_cases d3 : r2 ≤ 4 <;> by_cases d4 : k1 ≤ 2 <;> simp [d1, d2, d3, d4, endRet, iosOf, fin])
                      · have p8' : ¬ (es.length : Int) = 2 := by omega
                        have p7' : (cs.length : Int) = 2 := by omega
                        rw [no fun h => by obtain ⟨_, _, q, _⟩ := h.e; rw [q] at p8; simp at p8]
                        simp_arith [h2, intL_len, q1, z1, q3, z2, so, sl, q5, intsOf_intL, hb1, p6', p7', p8']
                    · have p7' : ¬ (cs.length : Int) = 2 := by omega
                      rw [no fun h => by obtain ⟨_, _, q, _⟩ := h.c; rw [q] at p7; simp at p7]
                      simp_arith [h2, intL_len, q1, z1, q3, z2, so, sl, q5, intsOf_intL, hb1, p6', p7']
                  · have p6' : ¬ ((dstL bs).length : Int) = (bs.length : Int) := by omega
                    rw [no fun h => p6 ((ups_iff bs).mp h.u).2]
                    simp_arith [h2, intL_len, q1, z1, q3, z2, so, sl, q5, intsOf_intL, hb1, p6']
                · rw [decide_eq_false p5] at q5
                  rw [no fun h => p5 ((ups_iff bs).mp h.u).1.symm]
                  simp_arith [h2, intL_len, q1, z1, q3, z2, so, sl, q5]
        · rw [decide_eq_false p1] at q1
          rw [no fun h => p1 h.a]
          simp_arith [h2, intL_len, q1]
      · rw [decide_eq_false fun h => ?_]
        · unfold f__law_setup_right c__law_setup_right x__law_setup_right_3
          simp_arith [h2]
        · obtain ⟨s, hd, hs⟩ := h
          unfold Su.d at hd
          simp only [PyData.tuple.injEq, List.cons.injEq, and_true] at hd
          obtain ⟨rfl, rfl, rfl, rfl⟩ := hd
          have w : ∀ ns : List Int, ns.length ≤ 3 → (∀ n ∈ ns, 0 ≤ n ∧ n ≤ 5) → areN 0 3 0 5 (.tuple (intL ns)) = true := fun ns k1 k2 => areN_iff.mpr ⟨ns, rfl, by omega, by omega, k2⟩
          have w1 := w s.seats (by have := hs.s2; omega) fun n hn => by have := hs.s3 n hn; omega
          have w2 := w s.sizes hs.z2 fun n hn => by have := hs.z3 n hn; omega
          have w3 := w [s.r1, s.r2] (by simp) fun n hn => by
            have h1 := hs.r1
            have h2 := hs.r2
            simp only [List.mem_cons, List.not_mem_nil, or_false] at hn
            rcases hn with rfl | rfl <;> omega
          have w4 := w [s.c1, s.c2] (by simp) fun n hn => by
            have h1 := hs.c1
            have h2 := hs.c2
            simp only [List.mem_cons, List.not_mem_nil, or_false] at hn
            rcases hn with rfl | rfl <;> omega
          have w3' : areN 0 3 0 5 (.tuple [.int s.r1, .int s.r2]) = true := w3
          have w4' : areN 0 3 0 5 (.tuple [.int s.c1, .int s.c2]) = true := w4
          simp only [List.all_cons, List.all_nil, w1, w2, w3', w4', Bool.and_self] at h1
          cases h1
    · rw [not_isSu fun s q => hl (by unfold Su.d at q; cases q; rfl)]
      have h4 : ¬ ((ds.length : Int) = 4) := by omega
      unfold f__law_setup_right c__law_setup_right
      simp_arith [h4]
  | _ =>
    rw [not_isSu fun s q => by unfold Su.d at q; cases q]
    unfold f__law_setup_right c__law_setup_right
    simp_arith
end
end Pg

end

-- L03
section
/-! The IR of fillchairs_k03_all_comers, and the row from a theorem about it. -/
namespace Lk03
open PySem L2 He Ev Pg
noncomputable section

def top (i : Nat) : Stmt := PySem.Challenge.pw_fillchairs_k03_all_comers.main.body.getD i (.Pass ⟨0, 0, 0, 0⟩)
def x__law_comers_right_0 : Ev.E := .lc [("size", 5)] (.nm 5) (.lst (.idx (.var 2) (.cst (.int 0)))) (some (.bool false (.cons (.not_ (.tru (.call "_law_whole" f__law_whole [] (.val (.var 5) (.val (.cst (.int 1)) (.val (.cst (.int 5)) .nil)))))) (.cons (.cmp .notin (.var 5) (.idx (.var 0) (.cst (.int 1)))) .nil)))) (.var 5)
def x__law_comers_right_1 : Ev.Ss := .cons (.ifs (.bool false (.cons (.not_ (.tru (.isi .tuple (.var 2)))) (.cons (.cmp .ne (.bi .len (.cons (.var 2) .nil)) (.cst (.int 2))) (.cons (.not_ (.tru (.isi .tuple (.idx (.var 2) (.cst (.int 0)))))) .nil)))) (.cons (.ret (.cst (.bool false)))
    .nil) .nil)
    (.cons (.ifs (.bool false (.cons (.cmp .gt (.bi .len (.cons (.idx (.var 2) (.cst (.int 0))) .nil)) (.idx (.idx (.var 0) (.cst (.int 3))) (.cst (.int 0)))) (.cons (.not_ (.tru (.call "_law_whole" f__law_whole [] (.val (.idx (.var 2) (.cst (.int 1))) (.val (.cst (.int 0)) (.val (.idx (.idx (.var 0) (.cst (.int 3))) (.cst (.int 1))) .nil)))))) .nil))) (.cons (.ret (.cst (.bool false)))
    .nil) .nil)
    (.cons (.ifs (.cmp .ne x__law_comers_right_0 (.lst .nil)) (.cons (.ret (.cst (.bool false)))
    .nil) .nil)
    .nil))
def x__law_comers_right_2 : Ev.S := .for_ [2] (.nm 2) (.lst (.var 1)) x__law_comers_right_1
def x__law_comers_right_3 : Ev.E := .lc [("k", 6)] (.nm 6) (.rng2 (.cst (.int 1)) (.bi .len (.cons (.var 1) .nil))) (some (.not_ (.cmp .lt (.idx (.var 1) (.bin .sub (.var 6) (.cst (.int 1)))) (.idx (.var 1) (.var 6))))) (.var 6)
/-- _law_comers_right(setup, told): slots 0=setup 1=told 2=entry 3=many 4=lines 5=size 6=k -/
def c__law_comers_right : Def := { pars := [none, none], more := 5, body :=
    (.cons (.ifs (.not_ (.tru (.isi .list (.var 1)))) (.cons (.ret (.cst (.bool false)))
    .nil) .nil)
    (.cons x__law_comers_right_2
    (.cons (.ifs (.cmp .ne x__law_comers_right_3 (.lst .nil)) (.cons (.ret (.cst (.bool false)))
    .nil) .nil)
    (.cons (.asg 3 false (.bi .len (.cons (.idx (.var 0) (.cst (.int 1))) .nil)))
    (.cons (.asg 4 false (.idx (.lst (.cons (.cst (.int 1)) (.cons (.bin .add (.cst (.int 1)) (.var 3)) (.cons (.bin .add (.bin .add (.cst (.int 1)) (.var 3)) (.bin .mul (.var 3) (.var 3))) .nil)))) (.idx (.idx (.var 0) (.cst (.int 3))) (.cst (.int 0)))))
    (.cons (.ret (.cmp .eq (.bi .len (.cons (.var 1) .nil)) (.bin .mul (.var 4) (.bin .add (.idx (.idx (.var 0) (.cst (.int 3))) (.cst (.int 1))) (.cst (.int 1))))))
    .nil)))))) }
def f__law_comers_right : Fn := c__law_comers_right.run fuel
def x_law_0 : Ev.Ss := .cons (.expr (.call "all_comers" f_all_comers [] (.val (.var 5) .nil)))
    .nil
def x_law_1 : Ev.S := .try_ x_law_0 (.cons "BadSetup" [("BadSetup", true)] none (.cons (.asg 6 false (.cst (.bool true)))
    .nil) .nil)
def x_law_2 : Ev.Ss := .cons (.asg 2 true (.call "_law_deck" f__law_deck [] (.val (.var 0) (.val (.var 1) .nil))))
    (.cons (.asg 3 false (.call "_law_any_setup" f__law_any_setup [] (.io 2 .nil)))
    (.cons (.asg 4 true (.call "all_comers" f_all_comers [] (.val (.var 3) .nil)))
    (.cons (.ifs (.not_ (.tru (.callb "_law_comers_right" f__law_comers_right [] (.val (.var 3) (.io 4 .nil))))) (.cons (.ret (.cst (.bool false)))
    .nil) .nil)
    (.cons (.expr (.pop 4 (.so (.call "_law_take" f__law_take [] (.io 2 (.val (.bi .len (.cons (.var 4) .nil)) .nil))))))
    (.cons (.ifs (.not_ (.tru (.call "_law_comers_right" f__law_comers_right [] (.val (.var 3) (.val (.call "all_comers" f_all_comers [] (.val (.var 3) .nil)) .nil))))) (.cons (.ret (.cst (.bool false)))
    .nil) .nil)
    (.cons (.asg 5 false (.idx (.lst (.cons (.call "_law_odd" f__law_odd [] (.io 2 .nil)) (.cons (.bi .list (.cons (.var 3) .nil)) (.cons (.slc (.var 3) .no (.so (.cst (.int 3)))) (.cons (.bin .add (.slc (.var 3) .no (.so (.cst (.int 3)))) (.tup (.cons (.tup (.cons (.cst (.int 3)) (.cons (.cst (.int 0)) .nil))) .nil))) .nil))))) (.call "_law_take" f__law_take [] (.io 2 (.val (.cst (.int 4)) .nil)))))
    (.cons (.asg 6 false (.cst (.bool false)))
    (.cons x_law_1
    (.cons (.ifs (.cmp .eq (.var 6) (.call "_law_setup_right" f__law_setup_right [] (.val (.var 5) .nil))) (.cons (.ret (.cst (.bool false)))
    .nil) .nil)
    .nil)))))))))
def x_law_3 : Ev.S := .for_ [1, 2, 3, 4, 5, 6] (.nm 1) (.rng1 (.bi .max2 (.cons (.cst (.int 1)) (.cons (.bi .min2 (.cons (.cst (.int 8)) (.cons (.bi .len (.cons (.var 0) .nil)) .nil))) .nil)))) x_law_2
/-- law(script): slots 0=script 1=k 2=deck 3=setup 4=told 5=thing 6=refused -/
def c_law : Def := { pars := [none], more := 6, body :=
    (.cons x_law_3
    (.cons (.ret (.cst (.bool true)))
    .nil)) }
def f_law : Fn := c_law.run fuel
/-! ### the head -/
def fa : List Fa := bltNames.map .free ++ [.glo "_law_deck", .glo "_law_take", .glo "_law_sizes", .glo "_law_any_setup", .glo "is_integer", .glo "is_number", .glo "are_numbers", .glo "are_most", .glo "is_setup", .glo "check_setup", .glo "all_lines", .glo "all_comers", .glo "_law_whole", .glo "_law_comers_right", .glo "_law_odd", .glo "_law_setup_right", .glo "law", .glo "BadSetup", .exc "BadSetup"]
def d__law_deck : DefD := ⟨("_law_deck", none), "_law_deck", "_law_deck", defArgs (top 13), defBody (top 13), defScope (top 13), [], []⟩
def d__law_take : DefD := ⟨("_law_take", none), "_law_take", "_law_take", defArgs (top 14), defBody (top 14), defScope (top 14), [], []⟩
def d__law_sizes : DefD := ⟨("_law_sizes", none), "_law_sizes", "_law_sizes", defArgs (top 16), defBody (top 16), defScope (top 16), [], []⟩
def d__law_any_setup : DefD := ⟨("_law_any_setup", none), "_law_any_setup", "_law_any_setup", defArgs (top 17), defBody (top 17), defScope (top 17), [], []⟩
def d_is_integer : DefD := ⟨("is_integer", none), "is_integer", "is_integer", defArgs (top 4), defBody (top 4), defScope (top 4), [], []⟩
def d_is_number : DefD := ⟨("is_number", none), "is_number", "is_number", defArgs (top 5), defBody (top 5), defScope (top 5), [], []⟩
def d_are_numbers : DefD := ⟨("are_numbers", none), "are_numbers", "are_numbers", defArgs (top 6), defBody (top 6), defScope (top 6), [], []⟩
def d_are_most : DefD := ⟨("are_most", none), "are_most", "are_most", defArgs (top 7), defBody (top 7), defScope (top 7), [], []⟩
def d_is_setup : DefD := ⟨("is_setup", none), "is_setup", "is_setup", defArgs (top 8), defBody (top 8), defScope (top 8), [], []⟩
def d_check_setup : DefD := ⟨("check_setup", none), "check_setup", "check_setup", defArgs (top 9), defBody (top 9), defScope (top 9), [], []⟩
def d_all_lines : DefD := ⟨("all_lines", none), "all_lines", "all_lines", defArgs (top 10), defBody (top 10), defScope (top 10), [], []⟩
def d_all_comers : DefD := ⟨("all_comers", none), "all_comers", "all_comers", defArgs (top 11), defBody (top 11), defScope (top 11), [], []⟩
def d__law_whole : DefD := ⟨("_law_whole", none), "_law_whole", "_law_whole", defArgs (top 15), defBody (top 15), defScope (top 15), [], []⟩
def d__law_comers_right : DefD := ⟨("_law_comers_right", none), "_law_comers_right", "_law_comers_right", defArgs (top 20), defBody (top 20), defScope (top 20), [], []⟩
def d__law_odd : DefD := ⟨("_law_odd", none), "_law_odd", "_law_odd", defArgs (top 18), defBody (top 18), defScope (top 18), [], []⟩
def d__law_setup_right : DefD := ⟨("_law_setup_right", none), "_law_setup_right", "_law_setup_right", defArgs (top 19), defBody (top 19), defScope (top 19), [], []⟩
def d_law : DefD := ⟨("law", none), "law", "law", defArgs (top 21), defBody (top 21), defScope (top 21), [], []⟩
def fn : List DefD := [d__law_deck, d__law_take, d__law_sizes, d__law_any_setup, d_is_integer, d_is_number, d_are_numbers, d_are_most, d_is_setup, d_check_setup, d_all_lines, d_all_comers, d__law_whole, d__law_comers_right, d__law_odd, d__law_setup_right, d_law]
def gs : List Fx := [.xm "BadSetup" "BadSetup" true]
section
variable {P : Program} {w : World} {K : PySem.W.Frag} {h : Heap} {mg : Str → Option Value} {base : Heap}
theorem o__law_deck (t : Told fa fn gs K h mg) : ∃ fd, FunD K "_law_deck" "_law_deck" (defArgs (top 13)) (defBody (top 13)) (defScope (top 13)) (d__law_deck.dvs K) (d__law_deck.kws K) (ga K "_law_deck") fd ∧ FnOk P w K mg base (L2.CX P w) 1 (ga K "_law_deck") fd ["script", "k"] (SpF ⟨K, w⟩ mg [false, false] f__law_deck) := by
  obtain ⟨fd, F⟩ := t.def_ 0 (d := d__law_deck) rfl
  refine ⟨fd, F, okDef (n := fuel) (N := ["script", "k", "cell"]) (d := c__law_deck) F ⟨rfl, rfl, rfl, by decide +kernel, rfl, by decide +kernel, by decide +kernel⟩ rfl (by kernel_rfl) (t.blt rfl) fun A hr => ?_⟩
  unfold c__law_deck
  repeat' (first | exact True.intro | assumption | refine And.intro ?_ ?_ | intro _)
theorem n__law_deck_2 (t : Told fa fn gs K h mg) : FnK P w K mg base "_law_deck" 1 f__law_deck [false, false] [] := by
  obtain ⟨fd, F, O⟩ := o__law_deck (P := P) (w := w) (base := base) t
  exact ⟨_, fd, ["script", "k"], [], [], O, t.glo 21 rfl, F.kp, F.bindsN (fun _ _ _ _ _ _ us hl => match us, hl with | [_, _], _ => rfl), .nil, fun _ => .nil⟩
theorem o__law_take (t : Told fa fn gs K h mg) : ∃ fd, FunD K "_law_take" "_law_take" (defArgs (top 14)) (defBody (top 14)) (defScope (top 14)) (d__law_take.dvs K) (d__law_take.kws K) (ga K "_law_take") fd ∧ FnOk P w K mg base (L2.CX P w) 1 (ga K "_law_take") fd ["deck", "many"] (SpF ⟨K, w⟩ mg [true, false] f__law_take) := by
  obtain ⟨fd, F⟩ := t.def_ 1 (d := d__law_take) rfl
  refine ⟨fd, F, okDef (n := fuel) (N := ["deck", "many", "one", "stir"]) (d := c__law_take) F ⟨rfl, rfl, rfl, by decide +kernel, rfl, by decide +kernel, by decide +kernel⟩ rfl (by kernel_rfl) (t.blt rfl) fun A hr => ?_⟩
  unfold c__law_take
  repeat' (first | exact True.intro | assumption | refine And.intro ?_ ?_ | intro _)
theorem n__law_take_2 (t : Told fa fn gs K h mg) : FnK P w K mg base "_law_take" 1 f__law_take [true, false] [] := by
  obtain ⟨fd, F, O⟩ := o__law_take (P := P) (w := w) (base := base) t
  exact ⟨_, fd, ["deck", "many"], [], [], O, t.glo 22 rfl, F.kp, F.bindsN (fun _ _ _ _ _ _ us hl => match us, hl with | [_, _], _ => rfl), .nil, fun _ => .nil⟩
theorem o__law_sizes (t : Told fa fn gs K h mg) : ∃ fd, FunD K "_law_sizes" "_law_sizes" (defArgs (top 16)) (defBody (top 16)) (defScope (top 16)) (d__law_sizes.dvs K) (d__law_sizes.kws K) (ga K "_law_sizes") fd ∧ FnOk P w K mg base (L2.CX P w) 2 (ga K "_law_sizes") fd ["deck", "most", "many"] (SpF ⟨K, w⟩ mg [true, false, false] f__law_sizes) := by
  obtain ⟨fd, F⟩ := t.def_ 2 (d := d__law_sizes) rfl
  refine ⟨fd, F, okDef (n := fuel) (N := ["deck", "most", "many", "sizes", "size"]) (d := c__law_sizes) F ⟨rfl, rfl, rfl, by decide +kernel, rfl, by decide +kernel, by decide +kernel⟩ rfl (by kernel_rfl) (t.blt rfl) fun A hr => ?_⟩
  have _ := (n__law_take_2 (P := P) (w := w) (base := base) t).kn hr (by decide)
  unfold c__law_sizes
  repeat' (first | exact True.intro | assumption | refine And.intro ?_ ?_ | intro _)
theorem n__law_sizes_3 (t : Told fa fn gs K h mg) : FnK P w K mg base "_law_sizes" 2 f__law_sizes [true, false, false] [] := by
  obtain ⟨fd, F, O⟩ := o__law_sizes (P := P) (w := w) (base := base) t
  exact ⟨_, fd, ["deck", "most", "many"], [], [], O, t.glo 23 rfl, F.kp, F.bindsN (fun _ _ _ _ _ _ us hl => match us, hl with | [_, _, _], _ => rfl), .nil, fun _ => .nil⟩
theorem o__law_any_setup (t : Told fa fn gs K h mg) : ∃ fd, FunD K "_law_any_setup" "_law_any_setup" (defArgs (top 17)) (defBody (top 17)) (defScope (top 17)) (d__law_any_setup.dvs K) (d__law_any_setup.kws K) (ga K "_law_any_setup") fd ∧ FnOk P w K mg base (L2.CX P w) 3 (ga K "_law_any_setup") fd ["deck"] (SpF ⟨K, w⟩ mg [true] f__law_any_setup) := by
  obtain ⟨fd, F⟩ := t.def_ 3 (d := d__law_any_setup) rfl
  refine ⟨fd, F, okDef (n := fuel) (N := ["deck", "seats", "sizes", "rooms", "k"]) (d := c__law_any_setup) F ⟨rfl, rfl, rfl, by decide +kernel, rfl, by decide +kernel, by decide +kernel⟩ rfl (by kernel_rfl) (t.blt rfl) fun A hr => ?_⟩
  have _ := (n__law_sizes_3 (P := P) (w := w) (base := base) t).kn hr (by decide)
  have _ := (n__law_take_2 (P := P) (w := w) (base := base) t).kn hr (by decide)
  unfold c__law_any_setup
  repeat' (first | exact True.intro | assumption | refine And.intro ?_ ?_ | intro _)
theorem n__law_any_setup_1 (t : Told fa fn gs K h mg) : FnK P w K mg base "_law_any_setup" 3 f__law_any_setup [true] [] := by
  obtain ⟨fd, F, O⟩ := o__law_any_setup (P := P) (w := w) (base := base) t
  exact ⟨_, fd, ["deck"], [], [], O, t.glo 24 rfl, F.kp, F.bindsN (fun _ _ _ _ _ _ us hl => match us, hl with | [_], _ => rfl), .nil, fun _ => .nil⟩
theorem o_is_integer (t : Told fa fn gs K h mg) : ∃ fd, FunD K "is_integer" "is_integer" (defArgs (top 4)) (defBody (top 4)) (defScope (top 4)) (d_is_integer.dvs K) (d_is_integer.kws K) (ga K "is_integer") fd ∧ FnOk P w K mg base (L2.CX P w) 1 (ga K "is_integer") fd ["thing"] (SpF ⟨K, w⟩ mg [false] f_is_integer) := by
  obtain ⟨fd, F⟩ := t.def_ 4 (d := d_is_integer) rfl
  refine ⟨fd, F, okDef (n := fuel) (N := ["thing"]) (d := c_is_integer) F ⟨rfl, rfl, rfl, by decide +kernel, rfl, by decide +kernel, by decide +kernel⟩ rfl (by kernel_rfl) (t.blt rfl) fun A hr => ?_⟩
  unfold c_is_integer
  repeat' (first | exact True.intro | assumption | refine And.intro ?_ ?_ | intro _)
theorem n_is_integer_1 (t : Told fa fn gs K h mg) : FnK P w K mg base "is_integer" 1 f_is_integer [false] [] := by
  obtain ⟨fd, F, O⟩ := o_is_integer (P := P) (w := w) (base := base) t
  exact ⟨_, fd, ["thing"], [], [], O, t.glo 25 rfl, F.kp, F.bindsN (fun _ _ _ _ _ _ us hl => match us, hl with | [_], _ => rfl), .nil, fun _ => .nil⟩
theorem o_is_number (t : Told fa fn gs K h mg) : ∃ fd, FunD K "is_number" "is_number" (defArgs (top 5)) (defBody (top 5)) (defScope (top 5)) (d_is_number.dvs K) (d_is_number.kws K) (ga K "is_number") fd ∧ FnOk P w K mg base (L2.CX P w) 2 (ga K "is_number") fd ["thing", "low", "high"] (SpF ⟨K, w⟩ mg [false, false, false] f_is_number) := by
  obtain ⟨fd, F⟩ := t.def_ 5 (d := d_is_number) rfl
  refine ⟨fd, F, okDef (n := fuel) (N := ["thing", "low", "high"]) (d := c_is_number) F ⟨rfl, rfl, rfl, by decide +kernel, rfl, by decide +kernel, by decide +kernel⟩ rfl (by kernel_rfl) (t.blt rfl) fun A hr => ?_⟩
  have _ := (n_is_integer_1 (P := P) (w := w) (base := base) t).kn hr (by decide)
  unfold c_is_number
  repeat' (first | exact True.intro | assumption | refine And.intro ?_ ?_ | intro _)
theorem n_is_number_3 (t : Told fa fn gs K h mg) : FnK P w K mg base "is_number" 2 f_is_number [false, false, false] [] := by
  obtain ⟨fd, F, O⟩ := o_is_number (P := P) (w := w) (base := base) t
  exact ⟨_, fd, ["thing", "low", "high"], [], [], O, t.glo 26 rfl, F.kp, F.bindsN (fun _ _ _ _ _ _ us hl => match us, hl with | [_, _, _], _ => rfl), .nil, fun _ => .nil⟩
theorem o_are_numbers (t : Told fa fn gs K h mg) : ∃ fd, FunD K "are_numbers" "are_numbers" (defArgs (top 6)) (defBody (top 6)) (defScope (top 6)) (d_are_numbers.dvs K) (d_are_numbers.kws K) (ga K "are_numbers") fd ∧ FnOk P w K mg base (L2.CX P w) 3 (ga K "are_numbers") fd ["thing", "least", "most", "low", "high"] (SpF ⟨K, w⟩ mg [false, false, false, false, false] f_are_numbers) := by
  obtain ⟨fd, F⟩ := t.def_ 6 (d := d_are_numbers) rfl
  refine ⟨fd, F, okDef (n := fuel) (N := ["thing", "least", "most", "low", "high", "number"]) (d := c_are_numbers) F ⟨rfl, rfl, rfl, by decide +kernel, rfl, by decide +kernel, by decide +kernel⟩ rfl (by kernel_rfl) (t.blt rfl) fun A hr => ?_⟩
  have _ := (n_is_number_3 (P := P) (w := w) (base := base) t).kn hr (by decide)
  unfold c_are_numbers
  repeat' (first | exact True.intro | assumption | refine And.intro ?_ ?_ | intro _)
theorem n_are_numbers_5 (t : Told fa fn gs K h mg) : FnK P w K mg base "are_numbers" 3 f_are_numbers [false, false, false, false, false] [] := by
  obtain ⟨fd, F, O⟩ := o_are_numbers (P := P) (w := w) (base := base) t
  exact ⟨_, fd, ["thing", "least", "most", "low", "high"], [], [], O, t.glo 27 rfl, F.kp, F.bindsN (fun _ _ _ _ _ _ us hl => match us, hl with | [_, _, _, _, _], _ => rfl), .nil, fun _ => .nil⟩
theorem o_are_most (t : Told fa fn gs K h mg) : ∃ fd, FunD K "are_most" "are_most" (defArgs (top 7)) (defBody (top 7)) (defScope (top 7)) (d_are_most.dvs K) (d_are_most.kws K) (ga K "are_most") fd ∧ FnOk P w K mg base (L2.CX P w) 4 (ga K "are_most") fd ["thing", "groups_low", "groups_high", "singles_high"] (SpF ⟨K, w⟩ mg [false, false, false, false] f_are_most) := by
  obtain ⟨fd, F⟩ := t.def_ 7 (d := d_are_most) rfl
  refine ⟨fd, F, okDef (n := fuel) (N := ["thing", "groups_low", "groups_high", "singles_high"]) (d := c_are_most) F ⟨rfl, rfl, rfl, by decide +kernel, rfl, by decide +kernel, by decide +kernel⟩ rfl (by kernel_rfl) (t.blt rfl) fun A hr => ?_⟩
  have _ := (n_are_numbers_5 (P := P) (w := w) (base := base) t).kn hr (by decide)
  unfold c_are_most
  repeat' (first | exact True.intro | assumption | refine And.intro ?_ ?_ | intro _)
theorem n_are_most_4 (t : Told fa fn gs K h mg) : FnK P w K mg base "are_most" 4 f_are_most [false, false, false, false] [] := by
  obtain ⟨fd, F, O⟩ := o_are_most (P := P) (w := w) (base := base) t
  exact ⟨_, fd, ["thing", "groups_low", "groups_high", "singles_high"], [], [], O, t.glo 28 rfl, F.kp, F.bindsN (fun _ _ _ _ _ _ us hl => match us, hl with | [_, _, _, _], _ => rfl), .nil, fun _ => .nil⟩
theorem o_is_setup (t : Told fa fn gs K h mg) : ∃ fd, FunD K "is_setup" "is_setup" (defArgs (top 8)) (defBody (top 8)) (defScope (top 8)) (d_is_setup.dvs K) (d_is_setup.kws K) (ga K "is_setup") fd ∧ FnOk P w K mg base (L2.CX P w) 5 (ga K "is_setup") fd ["thing"] (SpF ⟨K, w⟩ mg [false] f_is_setup) := by
  obtain ⟨fd, F⟩ := t.def_ 8 (d := d_is_setup) rfl
  refine ⟨fd, F, okDef (n := fuel) (N := ["thing", "seats", "sizes", "rooms", "comers", "one", "other"]) (d := c_is_setup) F ⟨rfl, rfl, rfl, by decide +kernel, rfl, by decide +kernel, by decide +kernel⟩ rfl (by kernel_rfl) (t.blt rfl) fun A hr => ?_⟩
  have _ := (n_are_most_4 (P := P) (w := w) (base := base) t).kn hr (by decide)
  have _ := (n_are_numbers_5 (P := P) (w := w) (base := base) t).kn hr (by decide)
  unfold c_is_setup
  repeat' (first | exact True.intro | assumption | refine And.intro ?_ ?_ | intro _)
theorem n_is_setup_1 (t : Told fa fn gs K h mg) : FnK P w K mg base "is_setup" 5 f_is_setup [false] [] := by
  obtain ⟨fd, F, O⟩ := o_is_setup (P := P) (w := w) (base := base) t
  exact ⟨_, fd, ["thing"], [], [], O, t.glo 29 rfl, F.kp, F.bindsN (fun _ _ _ _ _ _ us hl => match us, hl with | [_], _ => rfl), .nil, fun _ => .nil⟩
theorem o_check_setup (t : Told fa fn gs K h mg) : ∃ fd, FunD K "check_setup" "check_setup" (defArgs (top 9)) (defBody (top 9)) (defScope (top 9)) (d_check_setup.dvs K) (d_check_setup.kws K) (ga K "check_setup") fd ∧ FnOk P w K mg base (L2.CX P w) 6 (ga K "check_setup") fd ["setup"] (SpF ⟨K, w⟩ mg [false] f_check_setup) := by
  obtain ⟨fd, F⟩ := t.def_ 9 (d := d_check_setup) rfl
  refine ⟨fd, F, okDef (n := fuel) (N := ["setup"]) (d := c_check_setup) F ⟨rfl, rfl, rfl, by decide +kernel, rfl, by decide +kernel, by decide +kernel⟩ rfl (by kernel_rfl) (t.blt rfl) fun A hr => ?_⟩
  have _ := (n_is_setup_1 (P := P) (w := w) (base := base) t).kn hr (by decide)
  have _ := t.rai 38 39 (x := "BadSetup") rfl rfl
  unfold c_check_setup
  repeat' (first | exact True.intro | assumption | refine And.intro ?_ ?_ | intro _)
theorem n_check_setup_1 (t : Told fa fn gs K h mg) : FnK P w K mg base "check_setup" 6 f_check_setup [false] [] := by
  obtain ⟨fd, F, O⟩ := o_check_setup (P := P) (w := w) (base := base) t
  exact ⟨_, fd, ["setup"], [], [], O, t.glo 30 rfl, F.kp, F.bindsN (fun _ _ _ _ _ _ us hl => match us, hl with | [_], _ => rfl), .nil, fun _ => .nil⟩
theorem o_all_lines (t : Told fa fn gs K h mg) : ∃ fd, FunD K "all_lines" "all_lines" (defArgs (top 10)) (defBody (top 10)) (defScope (top 10)) (d_all_lines.dvs K) (d_all_lines.kws K) (ga K "all_lines") fd ∧ FnOk P w K mg base (L2.CX P w) 1 (ga K "all_lines") fd ["sizes", "most"] (SpF ⟨K, w⟩ mg [false, false] f_all_lines) := by
  obtain ⟨fd, F⟩ := t.def_ 10 (d := d_all_lines) rfl
  refine ⟨fd, F, okDef (n := fuel) (N := ["sizes", "most", "lines", "last", "count", "line", "size"]) (d := c_all_lines) F ⟨rfl, rfl, rfl, by decide +kernel, rfl, by decide +kernel, by decide +kernel⟩ rfl (by kernel_rfl) (t.blt rfl) fun A hr => ?_⟩
  unfold c_all_lines
  repeat' (first | exact True.intro | assumption | refine And.intro ?_ ?_ | intro _)
theorem n_all_lines_2 (t : Told fa fn gs K h mg) : FnK P w K mg base "all_lines" 1 f_all_lines [false, false] [] := by
  obtain ⟨fd, F, O⟩ := o_all_lines (P := P) (w := w) (base := base) t
  exact ⟨_, fd, ["sizes", "most"], [], [], O, t.glo 31 rfl, F.kp, F.bindsN (fun _ _ _ _ _ _ us hl => match us, hl with | [_, _], _ => rfl), .nil, fun _ => .nil⟩
theorem o_all_comers (t : Told fa fn gs K h mg) : ∃ fd, FunD K "all_comers" "all_comers" (defArgs (top 11)) (defBody (top 11)) (defScope (top 11)) (d_all_comers.dvs K) (d_all_comers.kws K) (ga K "all_comers") fd ∧ FnOk P w K mg base (L2.CX P w) 7 (ga K "all_comers") fd ["setup"] (SpF ⟨K, w⟩ mg [false] f_all_comers) := by
  obtain ⟨fd, F⟩ := t.def_ 11 (d := d_all_comers) rfl
  refine ⟨fd, F, okDef (n := fuel) (N := ["setup", "lines", "line", "singles"]) (d := c_all_comers) F ⟨rfl, rfl, rfl, by decide +kernel, rfl, by decide +kernel, by decide +kernel⟩ rfl (by kernel_rfl) (t.blt rfl) fun A hr => ?_⟩
  have _ := (n_all_lines_2 (P := P) (w := w) (base := base) t).kn hr (by decide)
  have _ := (n_check_setup_1 (P := P) (w := w) (base := base) t).kn hr (by decide)
  unfold c_all_comers
  repeat' (first | exact True.intro | assumption | refine And.intro ?_ ?_ | intro _)
theorem n_all_comers_1 (t : Told fa fn gs K h mg) : FnK P w K mg base "all_comers" 7 f_all_comers [false] [] := by
  obtain ⟨fd, F, O⟩ := o_all_comers (P := P) (w := w) (base := base) t
  exact ⟨_, fd, ["setup"], [], [], O, t.glo 32 rfl, F.kp, F.bindsN (fun _ _ _ _ _ _ us hl => match us, hl with | [_], _ => rfl), .nil, fun _ => .nil⟩
theorem o__law_whole (t : Told fa fn gs K h mg) : ∃ fd, FunD K "_law_whole" "_law_whole" (defArgs (top 15)) (defBody (top 15)) (defScope (top 15)) (d__law_whole.dvs K) (d__law_whole.kws K) (ga K "_law_whole") fd ∧ FnOk P w K mg base (L2.CX P w) 1 (ga K "_law_whole") fd ["thing", "low", "high"] (SpF ⟨K, w⟩ mg [false, false, false] f__law_whole) := by
  obtain ⟨fd, F⟩ := t.def_ 12 (d := d__law_whole) rfl
  refine ⟨fd, F, okDef (n := fuel) (N := ["thing", "low", "high"]) (d := c__law_whole) F ⟨rfl, rfl, rfl, by decide +kernel, rfl, by decide +kernel, by decide +kernel⟩ rfl (by kernel_rfl) (t.blt rfl) fun A hr => ?_⟩
  unfold c__law_whole
  repeat' (first | exact True.intro | assumption | refine And.intro ?_ ?_ | intro _)
theorem n__law_whole_3 (t : Told fa fn gs K h mg) : FnK P w K mg base "_law_whole" 1 f__law_whole [false, false, false] [] := by
  obtain ⟨fd, F, O⟩ := o__law_whole (P := P) (w := w) (base := base) t
  exact ⟨_, fd, ["thing", "low", "high"], [], [], O, t.glo 33 rfl, F.kp, F.bindsN (fun _ _ _ _ _ _ us hl => match us, hl with | [_, _, _], _ => rfl), .nil, fun _ => .nil⟩
theorem o__law_comers_right (t : Told fa fn gs K h mg) : ∃ fd, FunD K "_law_comers_right" "_law_comers_right" (defArgs (top 20)) (defBody (top 20)) (defScope (top 20)) (d__law_comers_right.dvs K) (d__law_comers_right.kws K) (ga K "_law_comers_right") fd ∧ FnOk P w K mg base (L2.CX P w) 2 (ga K "_law_comers_right") fd ["setup", "told"] (SpF ⟨K, w⟩ mg [false, false] f__law_comers_right) := by
  obtain ⟨fd, F⟩ := t.def_ 13 (d := d__law_comers_right) rfl
  refine ⟨fd, F, okDef (n := fuel) (N := ["setup", "told", "entry", "many", "lines", "size", "k"]) (d := c__law_comers_right) F ⟨rfl, rfl, rfl, by decide +kernel, rfl, by decide +kernel, by decide +kernel⟩ rfl (by kernel_rfl) (t.blt rfl) fun A hr => ?_⟩
  have _ := (n__law_whole_3 (P := P) (w := w) (base := base) t).kn hr (by decide)
  unfold c__law_comers_right
  repeat' (first | exact True.intro | assumption | refine And.intro ?_ ?_ | intro _)
theorem n__law_comers_right_2 (t : Told fa fn gs K h mg) : FnK P w K mg base "_law_comers_right" 2 f__law_comers_right [false, false] [] := by
  obtain ⟨fd, F, O⟩ := o__law_comers_right (P := P) (w := w) (base := base) t
  exact ⟨_, fd, ["setup", "told"], [], [], O, t.glo 34 rfl, F.kp, F.bindsN (fun _ _ _ _ _ _ us hl => match us, hl with | [_, _], _ => rfl), .nil, fun _ => .nil⟩
theorem o__law_odd (t : Told fa fn gs K h mg) : ∃ fd, FunD K "_law_odd" "_law_odd" (defArgs (top 18)) (defBody (top 18)) (defScope (top 18)) (d__law_odd.dvs K) (d__law_odd.kws K) (ga K "_law_odd") fd ∧ FnOk P w K mg base (L2.CX P w) 2 (ga K "_law_odd") fd ["deck"] (SpF ⟨K, w⟩ mg [true] f__law_odd) := by
  obtain ⟨fd, F⟩ := t.def_ 14 (d := d__law_odd) rfl
  refine ⟨fd, F, okDef (n := fuel) (N := ["deck", "odd"]) (d := c__law_odd) F ⟨rfl, rfl, rfl, by decide +kernel, rfl, by decide +kernel, by decide +kernel⟩ rfl (by kernel_rfl) (t.blt rfl) fun A hr => ?_⟩
  have _ := (n__law_take_2 (P := P) (w := w) (base := base) t).kn hr (by decide)
  unfold c__law_odd
  repeat' (first | exact True.intro | assumption | refine And.intro ?_ ?_ | intro _)
theorem n__law_odd_1 (t : Told fa fn gs K h mg) : FnK P w K mg base "_law_odd" 2 f__law_odd [true] [] := by
  obtain ⟨fd, F, O⟩ := o__law_odd (P := P) (w := w) (base := base) t
  exact ⟨_, fd, ["deck"], [], [], O, t.glo 35 rfl, F.kp, F.bindsN (fun _ _ _ _ _ _ us hl => match us, hl with | [_], _ => rfl), .nil, fun _ => .nil⟩
theorem o__law_setup_right (t : Told fa fn gs K h mg) : ∃ fd, FunD K "_law_setup_right" "_law_setup_right" (defArgs (top 19)) (defBody (top 19)) (defScope (top 19)) (d__law_setup_right.dvs K) (d__law_setup_right.kws K) (ga K "_law_setup_right") fd ∧ FnOk P w K mg base (L2.CX P w) 2 (ga K "_law_setup_right") fd ["thing"] (SpF ⟨K, w⟩ mg [false] f__law_setup_right) := by
  obtain ⟨fd, F⟩ := t.def_ 15 (d := d__law_setup_right) rfl
  refine ⟨fd, F, okDef (n := fuel) (N := ["thing", "part", "number", "seats", "sizes", "rooms", "comers"]) (d := c__law_setup_right) F ⟨rfl, rfl, rfl, by decide +kernel, rfl, by decide +kernel, by decide +kernel⟩ rfl (by kernel_rfl) (t.blt rfl) fun A hr => ?_⟩
  have _ := (n__law_whole_3 (P := P) (w := w) (base := base) t).kn hr (by decide)
  unfold c__law_setup_right
  repeat' (first | exact True.intro | assumption | refine And.intro ?_ ?_ | intro _)
theorem n__law_setup_right_1 (t : Told fa fn gs K h mg) : FnK P w K mg base "_law_setup_right" 2 f__law_setup_right [false] [] := by
  obtain ⟨fd, F, O⟩ := o__law_setup_right (P := P) (w := w) (base := base) t
  exact ⟨_, fd, ["thing"], [], [], O, t.glo 36 rfl, F.kp, F.bindsN (fun _ _ _ _ _ _ us hl => match us, hl with | [_], _ => rfl), .nil, fun _ => .nil⟩
theorem o_law (t : Told fa fn gs K h mg) : ∃ fd, FunD K "law" "law" (defArgs (top 21)) (defBody (top 21)) (defScope (top 21)) (d_law.dvs K) (d_law.kws K) (ga K "law") fd ∧ FnOk P w K mg base (L2.CX P w) 8 (ga K "law") fd ["script"] (SpF ⟨K, w⟩ mg [false] f_law) := by
  obtain ⟨fd, F⟩ := t.def_ 16 (d := d_law) rfl
  refine ⟨fd, F, okDef (n := fuel) (N := ["script", "k", "deck", "setup", "told", "thing", "refused"]) (d := c_law) F ⟨rfl, rfl, rfl, by decide +kernel, rfl, by decide +kernel, by decide +kernel⟩ rfl (by kernel_rfl) (t.blt rfl) fun A hr => ?_⟩
  have _ := (n__law_any_setup_1 (P := P) (w := w) (base := base) t).kn hr (by decide)
  have _ := (n__law_comers_right_2 (P := P) (w := w) (base := base) t).kn hr (by decide)
  have _ := (n__law_deck_2 (P := P) (w := w) (base := base) t).kn hr (by decide)
  have _ := (n__law_odd_1 (P := P) (w := w) (base := base) t).kn hr (by decide)
  have _ := (n__law_setup_right_1 (P := P) (w := w) (base := base) t).kn hr (by decide)
  have _ := (n__law_take_2 (P := P) (w := w) (base := base) t).kn hr (by decide)
  have _ := (n_all_comers_1 (P := P) (w := w) (base := base) t).kn hr (by decide)
  have _ := t.xmN (t.blt rfl) (c := "BadSetup") (tb := [("BadSetup", true)]) (by decide +kernel)
  unfold c_law
  repeat' (first | exact True.intro | assumption | refine And.intro ?_ ?_ | intro _)
end
def loose0 : List Str := ["ChairError", "BadSetup", "is_integer", "is_number", "are_numbers", "are_most", "is_setup", "check_setup", "all_lines", "all_comers", "_law_deck", "_law_take", "_law_whole", "_law_sizes", "_law_any_setup", "_law_odd", "_law_setup_right", "_law_comers_right"]
def loose : List Str := loose0
abbrev R : PySem.W.OpenRow := PySem.W.OpenLaw.row PySem.Challenge.rw_fillchairs_k03_all_comers
abbrev hk : PySem.W.Hook := hookV 5 fa fn gs
def ob (s : PySem.W.SharedT) : AlV := obsV 5 fa fn gs (HandSHeadRun.getT s)
theorem ob_eq (s : PySem.W.SharedT) : ob s = hk.obs s.abs := obsV_eq (HandSHeadRun.getT_eq s)
set_option maxHeartbeats 0 in
theorem run (w : World) : HandSHeadRun.RunEq R (PySem.W.view R.prog [21]) hk ob 3000 loose w := by
  intro os
  kernel_rfl
theorem facts {P : Program} {w : World} {K : PySem.W.Frag} {h : Heap} {mg : Str → Option Value} (t : Told fa fn gs K h mg) : ∃ fd : FuncData, (∀ (s : Shared) (v : Value), BindsTo s fd ⟨[v], []⟩ [("script", v)]) ∧ ∀ base : Heap, K.In base → base.Ns mainGlobals mg → FnOk P w K mg base (L2.CX P w) 8 (ga K "law") fd ["script"] (SpF ⟨K, w⟩ mg [false] f_law) := by
  obtain ⟨fd, F⟩ := t.def_ 16 (d := d_law) rfl
  have b := FunD.bindsA (ps := ["script"]) F fun _ _ _ _ _ _ us hl => match us, hl with | [_], _ => rfl
  refine ⟨fd, fun s v => b s [v] rfl, fun base _ _ => ?_⟩
  obtain ⟨fd2, F2, O⟩ := o_law (P := P) (w := w) (base := base) t
  cases (FunD.same F F2)
  exact O
end
end Lk03
open PySem PySem.W PySem.Calls PyProof.Rows
set_option maxRecDepth 100000 in
set_option maxHeartbeats 0 in
theorem Lk03.holds (math : ∀ ns : List Int, ns.length ≤ 63 → ∃ o, Lk03.f_law [.list (ns.map .int)] = .ok o (.bool true) []) : PySem.Challenge.rw_fillchairs_k03_all_comers.Holds := by
  w_on; o_law
  refine HandSHeadRun.head_any (r := OpenLaw.row PySem.Challenge.rw_fillchairs_k03_all_comers) (q := view (OpenLaw.row PySem.Challenge.rw_fillchairs_k03_all_comers).prog [21]) (H := Lk03.hk) (ob := Lk03.ob) (M := 3000) (loose := Lk03.loose) (d := HandSHeadRun.topDef (OpenLaw.row PySem.Challenge.rw_fillchairs_k03_all_comers).prog 21) (kwd := []) Lk03.ob_eq
    (by kernel_rfl) (fun s => by kernel_rfl) Lk03.run (by kernel_rfl) (by kernel_rfl) (by kernel_rfl) (by rfl) (by first | assumption | decide +kernel) (by decide +kernel) ⟨rfl, rfl, rfl, rfl, rfl, by decide +kernel⟩ ?hw ?hc
  case hw => w_witness2
  case hc =>
    refine Ev.walk_ofV (l := PySem.Challenge.rw_fillchairs_k03_all_comers) (n := 63) (k := 8) (x := "script") (CX := fun w => L2.CX (PySem.Challenge.rw_fillchairs_k03_all_comers).prog w) rfl (by decide) (by kernel_rfl) ⟨rfl, by decide, by decide⟩ ?F (fun _ _ _ _ _ z => Ev.noCX z)
    intro w mg fa h Y G hmg0
    obtain ⟨K, KX, c, v⟩ := Y
    have hmg : mg ("law" : PySem.Str) = some (.ref fa) := by
      have e : (HandSHeadRun.topDef (OpenLaw.row PySem.Challenge.rw_fillchairs_k03_all_comers).prog 21).name = ("law" : PySem.Str) := by kernel_rfl
      rw [← e]
      exact hmg0
    obtain ⟨fd, hb, hF⟩ := Lk03.facts (P := (PySem.Challenge.rw_fillchairs_k03_all_comers).prog) (w := w) ⟨KX, G, c, v⟩
    have e := hmg.symm.trans (Ev.Told.glo ⟨KX, G, c, v⟩ 37 (x := "law") rfl)
    cases e
    exact ⟨K, fd, _, KX, hb, fun H a ns hl _ hS => Ev.sp_law hS (math ns hl), hF⟩

end

-- M03
section
namespace Lk03
open PySem L2 Ev Pg
noncomputable section
local macro_rules | `(tactic| simp_arith [$ls,*]) => `(tactic| simp (config := { decide := false }) only [run_fin, Def.start, parSl, Option.map_some, List.replicate, List.cons_append, List.nil_append, List.append_nil, evalSs, evalS, evalE, ↓turn_def, ↓wturn_def, cl_next, cl_cnt, cl_brk, cl_ret, cl_exc, cl_bad, cl_ite, ↓lcC_def, evalEs, evalB, evalAs, evalT, evalTs, evalO, evalI, evalC, bind_ok', bind_bad', bind_exc', bind_ite, out_ok', out_bad', out_exc', out_ite, seq_next, seq_ret, seq_brk, seq_cnt, seq_exc, seq_bad, seq_ite, fin_next, fin_ret, fin_bad, fin_exc, fin_ite, nextO, op1, op2, ↓op2b_def, opN, giveT, getAll, Tm.get, Tm.esc, slot, Sl.get, share, take, takeAll, mkT, truOf, truD, cmpB, cmpD, ordD, binD, negD, notD, idxD, slcD, revD, biD, isiD, isD, isNone, ↓lcT_def, onTg, clr, rst, Res.noExc, List.map_cons, List.map_nil, List.all_cons, List.all_nil, plainAt, Sl.plain, Bool.and_true, Bool.and_self, tgIx, tgsIx, itemsOf, asgS, asgTg, asgTgs, Sl.opt, iosOf, endRet, doCall, doCallN, doCallB, isScal, lsetD, arGet, arIos, putIos, putIo, chgI, chgE, setAt, appAt, extAt, ownL, newL, newT, exAt, setX, noEx, Sl.notEx, evalHs, popE, popIx, augD, parS, eqD_int, eqD_str, at0, at1, at2, at3, at4, at5, w_group_group, w_group_single, w_group_part, w_group_go, w_single_group, w_single_single, w_single_part, w_single_go, w_part_group, w_part_single, w_part_part, w_part_go, w_go_group, w_go_single, w_go_part, w_go_go, sm0, sm1, sm2, sm3, sm4, sm5, sm6, sm7, sm8, sm9, sm10, sm11, sm12, sm13, sm14, sm15, sm16, sm17, sm18, sm19, sm20, sm21, sm22, sm23, sm24, sm25, sm26, sm27, sm28, sm29, sm30, sm31, sm32, sm33, sm34, sm35, sm36, sm37, sm38, sm39, sm40, List.getElem?_cons_zero, List.getElem?_cons_succ, List.set_cons_zero, List.set_cons_succ, List.nodup_nil, if_true, if_false, Bool.not_true, Bool.not_false, ↓reduceIte, Bool.false_eq_true, decide_eq_true_eq, List.nodup_cons, List.not_mem_nil, not_false_eq_true, and_self, true_and, and_true, Option.bind_some, Option.isSome_some, Option.getD_some, reduceCtorEq, decide_true, decide_false, Int.reduceLE, Int.reduceLT, Int.reduceEq, Int.reduceNe, Int.reduceAdd, Int.reduceSub, Int.reduceNeg, Nat.reduceAdd, Nat.reduceLeDiff, Int.cast_ofNat_Int, eq_self, List.length_cons, List.length_nil, Nat.zero_add, $ls,*])
local macro_rules | `(tactic| simp_arith) => `(tactic| simp (config := { decide := false }) only [run_fin, Def.start, parSl, Option.map_some, List.replicate, List.cons_append, List.nil_append, List.append_nil, evalSs, evalS, evalE, ↓turn_def, ↓wturn_def, cl_next, cl_cnt, cl_brk, cl_ret, cl_exc, cl_bad, cl_ite, ↓lcC_def, evalEs, evalB, evalAs, evalT, evalTs, evalO, evalI, evalC, bind_ok', bind_bad', bind_exc', bind_ite, out_ok', out_bad', out_exc', out_ite, seq_next, seq_ret, seq_brk, seq_cnt, seq_exc, seq_bad, seq_ite, fin_next, fin_ret, fin_bad, fin_exc, fin_ite, nextO, op1, op2, ↓op2b_def, opN, giveT, getAll, Tm.get, Tm.esc, slot, Sl.get, share, take, takeAll, mkT, truOf, truD, cmpB, cmpD, ordD, binD, negD, notD, idxD, slcD, revD, biD, isiD, isD, isNone, ↓lcT_def, onTg, clr, rst, Res.noExc, List.map_cons, List.map_nil, List.all_cons, List.all_nil, plainAt, Sl.plain, Bool.and_true, Bool.and_self, tgIx, tgsIx, itemsOf, asgS, asgTg, asgTgs, Sl.opt, iosOf, endRet, doCall, doCallN, doCallB, isScal, lsetD, arGet, arIos, putIos, putIo, chgI, chgE, setAt, appAt, extAt, ownL, newL, newT, exAt, setX, noEx, Sl.notEx, evalHs, popE, popIx, augD, parS, eqD_int, eqD_str, at0, at1, at2, at3, at4, at5, w_group_group, w_group_single, w_group_part, w_group_go, w_single_group, w_single_single, w_single_part, w_single_go, w_part_group, w_part_single, w_part_part, w_part_go, w_go_group, w_go_single, w_go_part, w_go_go, sm0, sm1, sm2, sm3, sm4, sm5, sm6, sm7, sm8, sm9, sm10, sm11, sm12, sm13, sm14, sm15, sm16, sm17, sm18, sm19, sm20, sm21, sm22, sm23, sm24, sm25, sm26, sm27, sm28, sm29, sm30, sm31, sm32, sm33, sm34, sm35, sm36, sm37, sm38, sm39, sm40, List.getElem?_cons_zero, List.getElem?_cons_succ, List.set_cons_zero, List.set_cons_succ, List.nodup_nil, if_true, if_false, Bool.not_true, Bool.not_false, ↓reduceIte, Bool.false_eq_true, decide_eq_true_eq, List.nodup_cons, List.not_mem_nil, not_false_eq_true, and_self, true_and, and_true, Option.bind_some, Option.isSome_some, Option.getD_some, reduceCtorEq, decide_true, decide_false, Int.reduceLE, Int.reduceLT, Int.reduceEq, Int.reduceNe, Int.reduceAdd, Int.reduceSub, Int.reduceNeg, Nat.reduceAdd, Nat.reduceLeDiff, Int.cast_ofNat_Int, eq_self, List.length_cons, List.length_nil, Nat.zero_add])
/-! ### all comers ascend -/
theorem lt_pair (l m : List Int) (a b : Int) (h : (l = m ∧ a < b) ∨ (l ≠ m ∧ PySem.W.dataLt (liD l) (liD m) = true)) : PySem.W.dataLt (.tuple [liD l, .int a]) (.tuple [liD m, .int b]) = true := by
  unfold PySem.W.dataLt at *
  have e : ∀ (l : List Int) (a : Int), PySem.W.keyToks (.tuple [liD l, .int a]) = [.inl 1] ++ (PySem.W.keyToks (liD l) ++ ([.inl 1] ++ [.inl a, .inl 0])) := fun l a => by
    simp [PySem.W.keyToks, PySem.W.keyToksAll]
  rw [e, e, PySem.W.lex_pre]
  rcases h with ⟨rfl, h⟩ | ⟨hne, h⟩
  · rw [PySem.W.lex_pre, PySem.W.lex_pre]
    refine PyProof.Rows.lex_true.mpr (.inl ?_)
    show decide (a < b) = true
    exact decide_eq_true h
  · have hv : PyData.eqv (liD l) (liD m) = false := by
      cases hv : PyData.eqv (liD l) (liD m) with
      | false => rfl
      | true =>
        have := (eqv_pl (liD l) (liD m) (n := 5) (m := 5) (by unfold liD; rw [pl_tup]; exact pls_intL) (by unfold liD; rw [pl_tup]; exact pls_intL)).mp hv
        unfold liD at this
        simp only [PyData.tuple.injEq] at this
        exact absurd (intL_inj.mp this) hne
    rw [(PySem.W.toks_eqv (liD l) (liD m) (alike_li l m)).2 hv]
    exact h
theorem li_inj {l m : List Int} (h : liD l = liD m) : l = m := by
  unfold liD at h
  simp only [PyData.tuple.injEq] at h
  exact intL_inj.mp h
theorem lev_nodup {zs : List Int} (h : zs.Nodup) : ∀ k, (levS zs k).Nodup
  | 0 => by unfold levS; simp
  | k + 1 => by
    unfold levS
    refine List.pairwise_flatMap.mpr ⟨fun l _ => ?_, (lev_nodup h k).imp fun {a b} hab x hx y hy e => ?_⟩
    · refine List.pairwise_map.mpr (h.imp fun {a b} hab e => hab ?_)
      simpa using e
    · obtain ⟨u, _, rfl⟩ := List.mem_map.mp hx
      obtain ⟨v, _, rfl⟩ := List.mem_map.mp hy
      have := List.append_inj' e rfl
      exact hab this.1
theorem lin_nodup {zs : List Int} (h : zs.Nodup) : ∀ k, (linS zs k).Nodup
  | 0 => by unfold linS; simp
  | k + 1 => by
    unfold linS
    refine List.nodup_append.mpr ⟨lin_nodup h k, lev_nodup h (k + 1), fun a ha b hb e => ?_⟩
    have h1 := (linS_mem.mp ha).1
    have h2 := (levS_mem.mp hb).1
    rw [e] at h1
    omega
theorem sizes_nodup {s : Su} (h : s.ok) : s.sizes.Nodup := ((ups_pw s.sizes).mp h.z4).imp fun hab => by omega
theorem all_pw {s : Su} (h : s.ok) : (allL s.sizes s.c1).Pairwise fun l m => l ≠ m ∧ PySem.W.dataLt (liD l) (liD m) = true := by
  have h1 : (allL s.sizes s.c1).Pairwise fun l m => leD (liD l) (liD m) = true := srtBy_pw liD _
  have h2 : (allL s.sizes s.c1).Nodup := (List.mergeSort_perm (linS s.sizes s.c1.toNat) _).nodup_iff.mpr (lin_nodup (sizes_nodup h) _)
  refine h1.imp₂ (fun a b hab hne => ⟨hne, ?_⟩) h2
  cases hl : PySem.W.dataLt (liD a) (liD b) with
  | true => rfl
  | false =>
    have hba : leD (liD b) (liD a) = true := by rw [leD_eq, hl]; rfl
    have hp : ∀ l : List Int, pl 5 (liD l) = true := fun l => by unfold liD; rw [pl_tup]; exact pls_intL
    exact absurd (li_inj (leD_anti (hp a) (hp b) (alike_li a b) hab hba)) hne
theorem eve_pw {s : Su} (h : s.ok) : (eveC s).Pairwise fun a b => PySem.W.dataLt a.d b.d = true := by
  unfold eveC
  refine List.pairwise_flatMap.mpr ⟨fun l _ => ?_, (all_pw h).imp fun {a b} hab x hx y hy => ?_⟩
  · refine List.pairwise_map.mpr ?_
    unfold rngL
    refine List.pairwise_map.mpr (List.pairwise_lt_range.imp fun {a b} hab => ?_)
    exact lt_pair l l _ _ (.inl ⟨rfl, by show (0 : Int) + (a : Nat) < 0 + (b : Nat); omega⟩)
  · obtain ⟨u, _, rfl⟩ := List.mem_map.mp hx
    obtain ⟨v, _, rfl⟩ := List.mem_map.mp hy
    exact lt_pair a b _ _ (.inr hab)
theorem cm_ord (a b : Cm) : OrdOk [.tuple (intL a.gs), .int a.n] [.tuple (intL b.gs), .int b.n] := by
  have h1 := alike_li a.gs b.gs
  have h2 := canLay_ints a.gs
  have h3 := canLay_ints b.gs
  have h4 := depth_li a.gs
  unfold liD at *
  refine ⟨?_, ?_, ?_, ?_⟩
  · simp only [PySem.W.alike, PySem.W.alikeAll, Bool.and_true, Bool.and_self] at *
    exact h1
  · simp [PyData.canLay0, PyData.canLayAll0, h2]
  · simp [PyData.canLay0, PyData.canLayAll0, h3]
  · simp [PyData.depth, PyData.depthAll] at *
    rw [show intL a.gs = a.gs.map .int from rfl, PySem.W.depth_ints]
    decide
theorem many_ok {s : Su} (h : s.ok) : ∃ L : Int, atI [PyData.int 1, .int (1 + (s.sizes.length : Nat)), .int (1 + (s.sizes.length : Nat) + (s.sizes.length : Nat) * (s.sizes.length : Nat))] s.c1 = some (.int L) ∧ ((eveC s).length : Int) = L * (s.c2 + 1) := by
  have hc1 := h.c1
  have hc2 := h.c2
  have hl : (eveC s).length = (linS s.sizes s.c1.toNat).length * (s.c2 + 1).toNat := by
    unfold eveC
    rw [flatN (n := (s.c2 + 1).toNat) (fun a => by rw [List.length_map, rngL_len])]
    unfold allL
    rw [srtBy_len]
  have a0 : (levS s.sizes 0).length = 1 := rfl
  have b0 : (linS s.sizes 0).length = 1 := rfl
  have a1 : (levS s.sizes 1).length = (levS s.sizes 0).length * s.sizes.length := levS_len _ 0
  have a2 : (levS s.sizes 2).length = (levS s.sizes 1).length * s.sizes.length := levS_len _ 1
  have b1 : (linS s.sizes 1).length = (linS s.sizes 0).length + (levS s.sizes 1).length := by show (linS s.sizes 0 ++ levS s.sizes 1).length = _; rw [List.length_append]
  have b2 : (linS s.sizes 2).length = (linS s.sizes 1).length + (levS s.sizes 2).length := by show (linS s.sizes 1 ++ levS s.sizes 2).length = _; rw [List.length_append]
  rw [a0, Nat.one_mul] at a1
  rw [a1] at a2
  rw [b0, a1] at b1
  rw [b1, a2] at b2
  have hc : s.c1 = 0 ∨ s.c1 = 1 ∨ s.c1 = 2 := by omega
  have hcast : (((s.c2 + 1).toNat : Nat) : Int) = s.c2 + 1 := by omega
  rcases hc with e | e | e
  · refine ⟨1, by rw [e]; rfl, ?_⟩
    have e0 : (0 : Int).toNat = 0 := rfl
    rw [hl, e, e0, b0, Int.natCast_mul, hcast]
    rfl
  · refine ⟨1 + (s.sizes.length : Nat), by rw [e]; rfl, ?_⟩
    have e0 : (1 : Int).toNat = 1 := rfl
    rw [hl, e, e0, b1, Int.natCast_mul, hcast, Int.natCast_add]
    rfl
  · refine ⟨1 + (s.sizes.length : Nat) + (s.sizes.length : Nat) * (s.sizes.length : Nat), by rw [e]; rfl, ?_⟩
    have e0 : (2 : Int).toNat = 2 := rfl
    rw [hl, e, e0, b2, Int.natCast_mul, hcast, Int.natCast_add, Int.natCast_add, Int.natCast_mul]
    rfl
theorem ne_b : eqD (.bool false) (.bool true) = some false ∧ eqD (.bool true) (.bool false) = some false := ⟨by decide +kernel, by decide +kernel⟩
/-! ### the law's judgement -/
theorem right_turn (s : Su) (h : s.ok) (told : D) (c : Cm) (hc : c.ok s) : turn (evalSs fuel x__law_comers_right_1) (.nm 2) [2] c.d [.sh s.d, .sh told, .un, .un, .un, .un, .un] = .next [.sh s.d, .sh told, .un, .un, .un, .un, .un] := by
  have hcd : c.d = .tuple [.tuple (intL c.gs), .int c.n] := rfl
  have g1 : ¬ s.c1 < (c.gs.length : Int) := by have := hc.g1; omega
  have hw := law_whole_any (.int c.n) 0 s.c2
  have hn : num 0 s.c2 (.int c.n) = true := decide_eq_true hc.n1
  rw [hn] at hw
  have hlen := cm_len s h hc
  have x : evalE x__law_comers_right_0 [.sh s.d, .sh told, .sh (.tuple [.tuple (intL c.gs), .int c.n]), .un, .un, .un, .un] = .ok (.ow (.list [])) [.sh s.d, .sh told, .sh (.tuple [.tuple (intL c.gs), .int c.n]), .un, .un, .un, .un] := by
    unfold x__law_comers_right_0
    have := lc_filter (own := [("size", 5)]) (tg := .nm 5) (it := .lst (.idx (.var 2) (.cst (.int 0)))) (c := some (.bool false (.cons (.not_ (.tru (.call "_law_whole" f__law_whole [] (.val (.var 5) (.val (.cst (.int 1)) (.val (.cst (.int 5)) .nil)))))) (.cons (.cmp .notin (.var 5) (.idx (.var 0) (.cst (.int 1)))) .nil)))) (e := .var 5)
      (ρ := [.sh s.d, .sh told, .sh (.tuple [.tuple (intL c.gs), .int c.n]), .un, .un, .un, .un]) (ρ1 := [.sh s.d, .sh told, .sh (.tuple [.tuple (intL c.gs), .int c.n]), .un, .un, .un, .un]) PyData.int c.gs (fun _ => false) PyData.int (by unfold intL; simp_arith) (by simp_arith) (by omega) fun g hg => by
        have hz := hc.g2 g hg
        have hw := law_whole_any (.int g) 1 5
        have hn : num 1 5 (.int g) = true := decide_eq_true (h.z3 g hz)
        rw [hn] at hw
        have hi := (inD_pl (x := .int g) (ds := intL s.sizes) 5 pl_int pls_intL).2
        simp only [mem_intL] at hi
        have hm : decide (g ∈ s.sizes) = true := decide_eq_true hz
        simp only [hz, decide_true] at hi
        unfold Su.d
        simp_arith [hw, hi]
    rw [this]
    congr 3
    rw [List.filter_eq_nil_iff.mpr (fun a _ => by simp)]
    rfl
  unfold x__law_comers_right_1
  rw [hcd]
  unfold Su.d at *
  simp_arith [intL_len, g1, hw, x, eqD_nilL]
theorem right_ok (s : Su) (h : s.ok) : f__law_comers_right [s.d, rowD (eveC s)] = .ok false (.bool true) [] := by
  have hlen := eveC_len h
  have lp := (forL_fold (body := evalSs fuel x__law_comers_right_1) (tg := .nm 2) (fg := [2]) (fun _ : Unit => [.sh s.d, .sh (rowD (eveC s)), .un, .un, .un, .un, .un]) Cm.d (fun _ _ => ()) (fun _ rest => ∀ c ∈ rest, c ∈ eveC s) (fun _ c rest hc => ⟨right_turn s h _ c ((eveC_mem h).mp (hc c List.mem_cons_self)), fun z hz => hc z (List.mem_cons_of_mem _ hz)⟩) (eveC s) () [.sh s.d, .sh (rowD (eveC s)), .un, .un, .un, .un, .un] (by simp_arith) fun c hc => hc).1
  have hpw := List.pairwise_iff_getElem.mp (eve_pw h)
  have hm : ((((eveC s).length : Nat) : Int) - 1).toNat = (eveC s).length - 1 := by omega
  have x : evalE x__law_comers_right_3 [.sh s.d, .sh (rowD (eveC s)), .un, .un, .un, .un, .un] = .ok (.ow (.list [])) [.sh s.d, .sh (rowD (eveC s)), .un, .un, .un, .un, .un] := by
    unfold x__law_comers_right_3
    have hr1 : RngOk 1 := rngOk_small
    have hr2 : RngOk ((eveC s).length : Nat) := rngOk_small (by omega) (by omega)
    have := lc_filter (own := [("k", 6)]) (tg := .nm 6) (it := .rng2 (.cst (.int 1)) (.bi .len (.cons (.var 1) .nil))) (c := some (.not_ (.cmp .lt (.idx (.var 1) (.bin .sub (.var 6) (.cst (.int 1)))) (.idx (.var 1) (.var 6))))) (e := .var 6)
      (ρ := [.sh s.d, .sh (rowD (eveC s)), .un, .un, .un, .un, .un]) (ρ1 := [.sh s.d, .sh (rowD (eveC s)), .un, .un, .un, .un, .un]) PyData.int (rngL 1 ((eveC s).length - 1)) (fun _ => false) PyData.int (by unfold rowD; simp_arith [List.length_map, hr1, hr2, hm, rng_map]) (by simp_arith) (by rw [rngL_len]; omega) fun k hk => by
        rw [rngL_mem] at hk
        obtain ⟨j, rfl⟩ : ∃ j : Nat, k = ((j + 1 : Nat) : Int) := ⟨(k - 1).toNat, by omega⟩
        have hj : j + 1 < (eveC s).length := by omega
        have hlt := hpw j (j + 1) (by omega) hj (by omega)
        have a1 := at_row (eveC s) j (by omega)
        have a2 := at_row (eveC s) (j + 1) hj
        have hsub : ((j + 1 : Nat) : Int) - 1 = (j : Int) := by omega
        generalize (eveC s)[j]'(by omega) = x at *
        generalize (eveC s)[j + 1] = y at *
        have ho := cm_ord x y
        have hx : x.d = .tuple [.tuple (intL x.gs), .int x.n] := rfl
        have hy : y.d = .tuple [.tuple (intL y.gs), .int y.n] := rfl
        rw [hx, hy] at hlt
        rw [hx] at a1
        rw [hy] at a2
        unfold rowD
        generalize ((j + 1 : Nat) : Int) = J at *
        simp_arith [hsub, a1, a2, ho, hlt]
    rw [this]
    congr 3
    rw [List.filter_eq_nil_iff.mpr (fun a _ => by simp)]
    rfl
  obtain ⟨L, hL, hn⟩ := many_ok h
  have hz := h.z2
  have hc2 := h.c2
  have hq : L * (s.c2 + 1) = ((eveC s).length : Int) := hn.symm
  have m1 : MulOk (s.sizes.length : Nat) (s.sizes.length : Nat) := .inr ⟨by omega, by omega⟩
  have m2 : MulOk L (s.c2 + 1) := by
    refine .inr ⟨?_, by omega⟩
    rw [← hn] at hq
    have : 0 ≤ s.c2 := hc2.1
    have h3 : s.c2 + 1 = 1 ∨ s.c2 + 1 = 2 ∨ s.c2 + 1 = 3 := by omega
    rcases h3 with e | e | e <;> rw [e] at hn <;> omega
  unfold rowD at *
  unfold f__law_comers_right c__law_comers_right x__law_comers_right_2
  unfold Su.d at *
  generalize hN : (s.sizes.length : Int) = N at *
  simp_arith [lp, x, eqD_nilL, intL_len, hN, m1, hL, m2, hq, List.length_map]
/-! ### any object -/
theorem all_comers_any (d : D) (hn : ¬ IsSu d) : f_all_comers [d] = .exc ⟨"BadSetup", []⟩ [] := by
  have hcs := check_setup_any d
  rw [if_neg hn] at hcs
  unfold f_all_comers c_all_comers
  simp_arith [hcs]
theorem turn_ok (ns : List Int) (hns : ns.length ≤ 63) (n : Int) (n0 : 0 ≤ n) (n1 : n ≤ 100) :
    turn (evalSs fuel x_law_2) (.nm 1) [1, 2, 3, 4, 5, 6] (.int n) [.sh (.list (intL ns)), .un, .un, .un, .un, .un, .un] = .next [.sh (.list (intL ns)), .un, .un, .un, .un, .un, .un] := by
  obtain ⟨k1, e1, h1⟩ := deck_ok ns n n0 (by omega)
  obtain ⟨s, k2, e2, hs, h2⟩ := any_setup_ok k1 h1
  have ha := all_comers_ok s hs
  have hr := right_ok s hs
  have hlen := eveC_len hs
  have hpos : 0 < (eveC s).length := by
    have : (⟨[], 0⟩ : Cm).ok s := ⟨by have := hs.c1; simp only [List.length_nil]; omega, fun n hn => (by cases hn), ⟨Int.le_refl 0, hs.c2.1⟩⟩
    exact List.length_pos_of_mem ((eveC_mem hs).mpr this)
  obtain ⟨u, k3, e3, u0, u1, h3⟩ := take_ok k2 h2 ((eveC s).length : Nat) (by omega) (by omega)
  have hpk : PopOk u := ⟨by omega, by omega⟩
  have hix : ixN (eveC s).length u = some u.toNat := by
    unfold ixN
    rw [if_pos u0, if_pos (by omega)]
  obtain ⟨c, hc⟩ : ∃ c, ((eveC s).map Cm.d)[u.toNat]? = some c := ⟨_, List.getElem?_eq_getElem (by rw [List.length_map]; omega)⟩
  obtain ⟨o, k4, e4, h4, _⟩ := oddOk k3 h3
  obtain ⟨w, k5, e5, w0, w1, h5⟩ := take_ok k4 h4 4 (by decide) (by decide)
  have hsd : s.d = .tuple [.tuple (intL s.seats), .tuple (intL s.sizes), .tuple [.int s.r1, .int s.r2], .tuple [.int s.c1, .int s.c2]] := rfl
  have q5 := cut_to [PyData.tuple (intL s.seats), .tuple (intL s.sizes), .tuple [.int s.r1, .int s.r2], .tuple [.int s.c1, .int s.c2]] 3 (by decide)
  have t3 : (3 : Int).toNat = 3 := rfl
  rw [t3] at q5
  simp only [List.take_succ_cons, List.take_zero] at q5
  obtain ⟨d, hd, _⟩ := atAny [o, PyData.list [.tuple (intL s.seats), .tuple (intL s.sizes), .tuple [.int s.r1, .int s.r2], .tuple [.int s.c1, .int s.c2]], .tuple [.tuple (intL s.seats), .tuple (intL s.sizes), .tuple [.int s.r1, .int s.r2]], .tuple [.tuple (intL s.seats), .tuple (intL s.sizes), .tuple [.int s.r1, .int s.r2], .tuple [.int 3, .int 0]]] (fun _ => True) (fun _ _ => trivial) w w0 (by simpa using w1)
  have hsr := law_setup_right_any d
  have hlk : List.lookup ("BadSetup" : Str) [("BadSetup", true)] = some true := by decide +kernel
  have sb1 := ne_b.1
  have sb2 := ne_b.2
  have d1 : (!decide (IsSu d)) = true ∨ (!decide (IsSu d)) = false := by cases decide (IsSu d) <;> simp
  rw [hsd] at e2 ha hr
  unfold rowD at *
  generalize hN : (((eveC s).length : Nat) : Int) = N at *
  unfold x_law_2 x_law_1 x_law_0
  by_cases hi : IsSu d
  · rw [decide_eq_true hi] at hsr
    obtain ⟨s', rfl, hs'⟩ := hi
    have ha' := all_comers_ok s' hs'
    unfold rowD at ha'
    simp_arith [e1, e2, ha, hr, List.length_map, hN, e3, hpk, hix, hc, e4, q5, e5, hd, ha', hsr, sb1, sb2]
  · rw [decide_eq_false hi] at hsr
    have ha' := all_comers_any d hi
    simp_arith [e1, e2, ha, hr, List.length_map, hN, e3, hpk, hix, hc, e4, q5, e5, hd, ha', hlk, hsr, sb1, sb2]
theorem law_ok (ns : List Int) (hns : ns.length ≤ 63) : ∃ o, f_law [.list (ns.map .int)] = .ok o (.bool true) [] := by
  have key : ∀ m : Nat, m ≤ 8 → forL (evalSs fuel x_law_2) (.nm 1) [1, 2, 3, 4, 5, 6] (rngD 0 m) [.sh (.list (intL ns)), .un, .un, .un, .un, .un, .un] = .next [.sh (.list (intL ns)), .un, .un, .un, .un, .un, .un] := fun m hm => by
    rw [rng_map]
    refine (forL_fold (body := evalSs fuel x_law_2) (tg := .nm 1) (fg := [1, 2, 3, 4, 5, 6]) (fun _ : Unit => [.sh (.list (intL ns)), .un, .un, .un, .un, .un, .un]) .int (fun _ _ => ()) (fun _ rest => ∀ n ∈ rest, 0 ≤ n ∧ n ≤ 8) (fun _ n rest hn => ⟨?_, fun z hz => hn z (List.mem_cons_of_mem _ hz)⟩) (rngL 0 m) () [.sh (.list (intL ns)), .un, .un, .un, .un, .un, .un] (by simp_arith) fun n hn => by rw [rngL_mem] at hn; omega).1
    have hn1 := hn n List.mem_cons_self
    exact turn_ok ns hns n hn1.1 (by omega)
  obtain ⟨m, hm, m0, m1⟩ : ∃ m : Int, (if (if (ns.length : Int) < 8 then (ns.length : Int) else 8) > 1 then (if (ns.length : Int) < 8 then (ns.length : Int) else 8) else 1) = m ∧ 0 ≤ m ∧ m ≤ 8 := ⟨_, rfl, by split <;> (try split) <;> omega, by split <;> (try split) <;> omega⟩
  have e := key m.toNat (by omega)
  have hrg : RngOk m := rngOk_small
  refine ⟨false, ?_⟩
  show fin c_law (evalSs fuel c_law.body [.sh (.list (intL ns)), .un, .un, .un, .un, .un, .un]) = _
  unfold c_law x_law_3
  generalize hN : (ns.length : Int) = N at *
  simp_arith [intL_len, hN, hm, hrg, e]
end
end Lk03

end

theorem PySem.Challenge.cw_fillchairs_k03_all_comers_holds : PySem.Challenge.rw_fillchairs_k03_all_comers.Holds :=
  Lk03.holds Lk03.law_ok
