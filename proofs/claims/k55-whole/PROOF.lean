import PyProof.Rows.All
import Wide.All
import OpenK.AllK
import Wide.FinOn
import KE.KStateDown
import KE.DataMinMax
import KE.KDictDisplayH
import KE.KDictList
import KE.KRevIter
import KE.GoesEnum
import HandS.ForMost
import HandS.Defaults
import HandS.TupAny
import HandS.TupLen
import HandS.TupLe
import HandS.TupSets
import HandS.Zip
import HandS.Deep
import HandS.Walk
import HandS.IsInst
import HandS.CallLocal
import HandS.Strs
import HandS.SetFor
import HandS.Rev
import HandS.Conv
import HandS.Codes
import HandS.Style
import HandS.Head0
import HandS.Head1
import HandS.Head2
import HandS.HeadEnd
import HandS.HeadHook1
import HandS.HeadHook2
import PySem.Challenge.RW_beamrows_k55_whole_kept_or_late
set_option Elab.async false
set_option linter.all false
set_option maxRecDepth 100000
set_option maxHeartbeats 4000000
namespace Br
open PySem PySem.Spec PyProof.Rows L2
/-! ### rows, programs, what comes of a row: plain functions -/
structure Rw where
  m : Str
  d : Str
  v : V
abbrev Pg := List Rw
def inS (d : Str) (l : List Str) : Bool := inV (.str d) (l.map V.str)
def eqS (a b : Str) : Bool := decide (V.str a = V.str b)
def PLAIN : List Str := ["half", "twice", "up", "down", "tox", "toa", "rest", "idle", "wait"]
def IFS : List Str := ["ifz", "ifn", "ifc", "ifd"]
def THREE : List Str := ["get", "put", "add", "sub", "mask", "flip", "getx", "putx", "idle", "go", "door", "eye"]
def FOUR : List Str := ["lay", "take", "at"]
def SAME : List Str := ["put", "putx", "lay", "rest", "idle", "go", "ifz", "ifn", "ifc", "ifd", "door", "wait"]
def byteC (d : Str) : Int := if inS d PLAIN = true then 1 else if eqS d "data" = true then 1 else 2
def beatC (d : Str) : Int := if eqS d "data" = true then 0 else if inS d FOUR = true then 4 else if inS d THREE = true then 3 else 2
/-- the place of the first row that bears the mark z -/
def ixOf (P : Pg) (z : Str) : Nat := (P.map (·.m)).idxOf z
def strV : V → Str
  | .str z => z
  | _ => ""
def intV : V → Int
  | .int i => i
  | _ => 0
def tgt (P : Pg) (r : Rw) : Nat := ixOf P (strV r.v)
/-- addresses from base on -/
def addrs : Pg → Int → List Int
  | [], _ => []
  | r :: P, b => b :: addrs P (b + byteC r.d)
def crossed (a b : Int) : Int := if a / 32 = b / 32 then 0 else 1
/-- a page sign -/
inductive Sg where
  | non
  | one (n : Int)
  | all (l : List Int)
def signOf (P : Pg) (A : List Int) (i : Nat) : Sg := match P[i]? with
  | none => .non
  | some r => if inS r.d IFS = true then .one (crossed (A.getD (tgt P r) 0) (A.getD (i + 1) 0)) else
      if eqS r.d "at" = true then .all ((List.range 256).map fun (x : Nat) => crossed (A.getD (tgt P r) 0) (A.getD (tgt P r) 0 + (x : Int))) else .non
def signsOf (P : Pg) : List Sg := (List.range P.length).map (signOf P (addrs P 0))
def sOne : Option Sg → Int
  | some (.one n) => n
  | _ => 0
def sAll : Option Sg → List Int
  | some (.all l) => l
  | _ => []
/-- what comes of a row: the next row, its x and zero flag, least and most beats -/
structure Cm where
  r : Nat
  lo : Int
  hi : Int
  z : Int
  ls : Int
  ms : Int
def xWhere (lo hi z : Int) (set : Bool) : Option (Int × Int) :=
  if z = 0 then some (lo, hi) else if (set && decide (lo = 0)) = true then some (0, 0) else if (!set && decide (0 < hi)) = true then some (if lo > 1 then lo else 1, hi) else none
def xGone (d : Str) (lo hi z : Int) (gone : Bool) : Option (Int × Int) :=
  if eqS d "ifz" = true then xWhere lo hi z gone else if eqS d "ifn" = true then xWhere lo hi z (!gone) else some (lo, hi)
def xBehind (r : Rw) (lo hi z : Int) : Int × Int × Int :=
  if eqS r.d "setx" = true then (intV r.v, intV r.v, 1) else if eqS r.d "toa" = true then (lo, hi, 1) else (lo, hi, z * (if inS r.d SAME = true then 1 else 0))
def cutI (l : List Int) (lo hi : Int) : List Int := (l.drop lo.toNat).take (hi.toNat + 1 - lo.toNat)
def minL (l : List Int) : Int := l.tail.foldl min (l.headD 0)
def maxL (l : List Int) : Int := l.tail.foldl max (l.headD 0)
def comesOf (P : Pg) (S : List Sg) (i : Nat) (lo hi z : Int) : List Cm := match P[i]? with
  | none => []
  | some r => if inS r.d IFS = true then
        (match xGone r.d lo hi z false with | some (a, b) => [⟨i + 1, a, b, z, 2, 2⟩] | none => []) ++
        (match xGone r.d lo hi z true with | some (a, b) => [⟨tgt P r, a, b, z, 3 + sOne S[i]?, 3 + sOne S[i]?⟩] | none => [])
      else [⟨if eqS r.d "go" = true then tgt P r else i + 1, (xBehind r lo hi z).1, (xBehind r lo hi z).2.1, (xBehind r lo hi z).2.2,
        beatC r.d + (if eqS r.d "at" = true then minL (cutI (sAll S[i]?) lo hi) else 0), beatC r.d + (if eqS r.d "at" = true then maxL (cutI (sAll S[i]?) lo hi) else 0)⟩]
def nextRows (P : Pg) (i : Nat) : List Nat := match P[i]? with
  | none => []
  | some r => if eqS r.d "data" = true then [] else if eqS r.d "go" = true then [tgt P r] else if inS r.d IFS = true then [i + 1, tgt P r] else [i + 1]
def waitAt (P : Pg) (i : Nat) : Bool := match P[i]? with
  | none => false
  | some r => eqS r.d "wait"
/-- deeds of rows that are done, but getx, tox, up, down -/
def GOOD : List Str := ["set", "test", "setx", "get", "put", "add", "sub", "mask", "flip", "putx", "lay", "take", "half", "twice", "toa", "rest", "idle", "wait", "go", "ifz", "ifn", "ifc", "ifd", "at", "door", "eye"]
def MARKD : List Str := ["go", "ifz", "ifn", "ifc", "ifd", "at"]
/-- a program of n rows that are done and some table rows -/
structure Wf (P : Pg) (n : Nat) : Prop where
  n1 : 0 < n
  n12 : n ≤ 12
  le : n ≤ P.length
  l14 : P.length ≤ 14
  good : ∀ (i : Nat) (r : Rw), i < n → P[i]? = some r → r.d ∈ GOOD
  data : ∀ (i : Nat) (r : Rw), n ≤ i → P[i]? = some r → r.d = "data"
  last : ∀ r, P[n - 1]? = some r → r.d = "go"
  mark : ∀ (i : Nat) (r : Rw), i < n → P[i]? = some r → r.d ∈ MARKD → ∃ z, r.v = .str z ∧ tgt P r < P.length ∧ (r.d ≠ "at" → tgt P r < n)
  setx : ∀ (i : Nat) (r : Rw), i < n → P[i]? = some r → r.d = "setx" → ∃ x, r.v = .int x ∧ 0 ≤ x ∧ x ≤ 255
  noif : ∀ (i : Nat) (r : Rw), i < n → P[i]? = some r → r.d ≠ "go" → i + 1 < n
/-! ### dicts whose keys are tuples of ints, the keys' own tuples told (tracked or of the written part) -/
abbrev DEnt := List Int × Addr × V
abbrev knI (P : Program) (w : World) := tupleKind (intKind P w)
def RelE (p : DEnt) (q : List Int × Addr × Value) : Prop := p.1 = q.1 ∧ p.2.1 = q.2.1 ∧ RelV p.2.2 q.2.2
def DO (P : Program) (w : World) (a : Addr) (xs : List DEnt) : HO := .ext fun h => xs.length ≤ sizeLine ∧ (a == sysModules) = false ∧
  ∃ ys : List (List Int × Addr × Value), Paired RelE xs ys ∧ ∃ o es ep, h.get? a = some o ∧ o.ExactDict ∧ o.data = .dict es ep ∧ es.toList = ys.map (entryOfKey (knI P w)) ∧ (ys.map (·.1)).Nodup
def KeyK (K : PySem.W.Frag) (H : Hp) (xs : List DEnt) : Prop := ∀ x ∈ xs, SqT K H x.2.1 (x.1.map V.int)
def atX (xs : List DEnt) (k : List Int) : Option V := (xs.find? fun x => decide (x.1 = k)).map (·.2.2)
def putX (k : List Int) (v : V) (x : DEnt) : DEnt := if x.1 = k then (x.1, x.2.1, v) else x
def stoX (xs : List DEnt) (k : List Int) (b : Addr) (v : V) : List DEnt := if (atX xs k).isSome then xs.map (putX k v) else xs ++ [(k, b, v)]
theorem relE_at {xs : List DEnt} {ys : List (List Int × Addr × Value)} (r : Paired RelE xs ys) (k : List Int) : RelO (atX xs k) ((atKey ys k).map (·.2)) := by
  induction r with
  | nil => exact True.intro
  | @cons p q ps qs h t ih =>
    obtain ⟨h1, _, h2⟩ := h
    by_cases e : p.1 = k
    · have e' : q.1 = k := h1.symm.trans e
      have b : atKey (q :: qs) k = some q.2 := by simp [atKey, List.find?_cons, e']
      have c : atX (p :: ps) k = some p.2.2 := by simp [atX, List.find?_cons, e]
      rw [b, c]; exact h2
    · have e' : ¬ q.1 = k := fun z => e (h1.trans z)
      have b : atKey (q :: qs) k = atKey qs k := by simp [atKey, List.find?_cons, e']
      have c : atX (p :: ps) k = atX ps k := by simp [atX, List.find?_cons, e]
      rw [b, c]; exact ih
theorem relE_map {xs : List DEnt} {ys : List (List Int × Addr × Value)} (r : Paired RelE xs ys) (k : List Int) {y : V} {u : Value} (ry : RelV y u) : Paired RelE (xs.map (putX k y)) (ys.map (putAt k u)) := by
  induction r with
  | nil => exact .nil
  | @cons p q ps qs h t ih =>
    rw [List.map_cons, List.map_cons]
    refine .cons ?_ ih
    obtain ⟨h1, h2, h3⟩ := h
    unfold putX putAt
    by_cases e : p.1 = k
    · rw [if_pos e, if_pos (h1.symm.trans e)]; exact ⟨h1, h2, ry⟩
    · rw [if_neg e, if_neg (fun z => e (h1.trans z))]; exact ⟨h1, h2, h3⟩
theorem relE_sto {xs : List DEnt} {ys : List (List Int × Addr × Value)} (r : Paired RelE xs ys) (k : List Int) (b : Addr) {y : V} {u : Value} (ry : RelV y u) : Paired RelE (stoX xs k b y) (storedH ys k b u) := by
  have e : (atX xs k).isSome = (atKey ys k).isSome := by
    rw [(relE_at r k).isSome_eq, Option.isSome_map]
  unfold stoX storedH
  rw [e]
  by_cases q : (atKey ys k).isSome = true
  · rw [if_pos q, if_pos q]; exact relE_map r k ry
  · rw [if_neg q, if_neg q]; exact Paired.snoc r ⟨rfl, rfl, ry⟩
theorem stoX_len (xs : List DEnt) (k : List Int) (b : Addr) (v : V) : (stoX xs k b v).length ≤ xs.length + 1 := by
  unfold stoX
  split
  · rw [List.length_map]; omega
  · rw [List.length_append]; exact Nat.le_refl _
theorem items_int {P : Program} {w : World} : ∀ {ks : List Int} {us : List Value}, Vals (ks.map V.int) us → ItemsAre (intKind P w) ks us
  | [], _, r => by rw [List.map_nil] at r; cases r; exact .nil
  | k :: ks, _, r => by
    rw [List.map_cons] at r
    cases r with
    | cons h t =>
      obtain ⟨tk, rfl⟩ := h
      exact .cons (intKind_is _ _ _ _) (items_int t)
section
variable {X : Cx} {pins : List (Addr × Obj)} {σ : L2.St} {H : Hp} {s : Shared} {a b : Addr} {xs : List DEnt} {k : List Int} {A : Around} {E : Value → Shared → Prop}
theorem key_int (I : Inv X pins σ H s) (h : SqT X.K H b (k.map V.int)) : (knI X.prog X.w).is s.heap k b := by
  obtain ⟨its, r, ⟨o, h1, h2, n, h3⟩, _⟩ := I.tuple h
  exact ⟨o, its.toArray, n, h1, h2, h3, by simpa using items_int r⟩
theorem paired_mem {xs : List DEnt} {ys : List (List Int × Addr × Value)} (r : Paired RelE xs ys) : ∀ y ∈ ys, ∃ x ∈ xs, RelE x y := by
  induction r with
  | nil => intro y hy; exact nomatch hy
  | @cons p q ps qs h t ih =>
    intro y hy
    rcases List.mem_cons.mp hy with e | hy
    · subst e; exact ⟨p, List.mem_cons_self, h⟩
    · obtain ⟨x, hx, hr⟩ := ih y hy
      exact ⟨x, List.mem_cons_of_mem _ hx, hr⟩
theorem dx_of (I : Inv X pins σ H s) (e : H a = some (DO X.prog X.w a xs)) (hk : KeyK X.K H xs) : xs.length ≤ sizeLine ∧ (a == sysModules) = false ∧ ∃ ys, Paired RelE xs ys ∧ s.heap.DictOfH (knI X.prog X.w) a ys := by
  obtain ⟨⟨z, hs, ys, r, o, es, ep, h1, h2, h3, h4, h5⟩, _⟩ := (show ObjOk X.prog X.w H s.heap a (DO X.prog X.w a xs) from I.hok a _ e)
  refine ⟨z, hs, ys, r, o, es, ep, h1, h2, h3, h4, fun y hy => ?_, h5⟩
  obtain ⟨x, hx, e1, e2, _⟩ := paired_mem r y hy
  have := key_int I (hk x hx)
  rw [e1, e2] at this
  exact this
theorem dx_new {P : Program} {w : World} {H' : Hp} {h' : Heap} {ys : List (List Int × Addr × Value)} (z : xs.length ≤ sizeLine) (hd : (a == sysModules) = false) (r : Paired RelE xs ys) (dd : h'.DictOfH (knI P w) a ys) : ObjOk P w H' h' a (DO P w a xs) := by
  obtain ⟨o, es, ep, h1, h2, h3, h4, _, h5⟩ := dd
  refine ⟨⟨z, hd, ys, r, o, es, ep, h1, h2, h3, h4, h5⟩, ⟨o, h1⟩, fun g1 g2 p kk => ?_⟩
  obtain ⟨z, hd, ys, r, o, es, ep, h1, h2⟩ := p
  exact ⟨z, hd, ys, r, o, es, ep, kk _ h1, h2⟩
/-- b in d, b not in d -/
def rXIn (P : Program) (w : World) (K : PySem.W.Frag) (neg : Bool) : R2 := fun x y H Q => ∃ a b xs k, x = .ref b ∧ y = .ref a ∧ H a = some (DO P w a xs) ∧ KeyK K H xs ∧ SqT K H b (k.map V.int) ∧ Q (.bl (if neg then !(atX xs k).isSome else (atX xs k).isSome)) H
theorem op_xin (hu : X.A.units + 1 < cLine) : OpR X (compareOp .In) (rXIn X.prog X.w X.K false) := by
  intro pins s σ H x y v u Q I rx ry h
  obtain ⟨a, b, xs, k, rfl, rfl, e, hk, hb, q⟩ := h
  cases rx
  cases ry
  obtain ⟨z, hd, ys, rel, dd⟩ := dx_of I e hk
  refine wpAny_in_heap (tupleKind_room_in1 hu) (key_int I hb) hd dd ?_
  have r2 := (relE_at rel k).isSome_eq
  rw [Option.isSome_map] at r2
  rw [← r2]
  exact ⟨.bl _, H, I.tok _, rfl, q⟩
theorem op_xnotin (hu : X.A.units + 1 < cLine) : OpR X (compareOp .NotIn) (rXIn X.prog X.w X.K true) := by
  intro pins s σ H x y v u Q I rx ry h
  obtain ⟨a, b, xs, k, rfl, rfl, e, hk, hb, q⟩ := h
  cases rx
  cases ry
  obtain ⟨z, hd, ys, rel, dd⟩ := dx_of I e hk
  refine wpAny_notIn_heap (tupleKind_room_in1 hu) (key_int I hb) hd dd ?_
  have r2 := (relE_at rel k).isSome_eq
  rw [Option.isSome_map] at r2
  rw [← r2]
  exact ⟨.bl _, H, I.tok _, rfl, q⟩
/-- len(d) -/
def rXLen (P : Program) (w : World) (K : PySem.W.Frag) : List V → Hp → VK → Prop := fun vs H Q => ∃ a xs, vs = [.ref a] ∧ H a = some (DO P w a xs) ∧ KeyK K H xs ∧ Q (.int ((xs.length : Nat) : Int)) H
theorem call_len_dX : CallR X (.builtin "len") (rXLen X.prog X.w X.K) := by
  intro pins s σ H vs us Q I r h
  obtain ⟨a, xs, rfl, e, hk, q⟩ := h
  obtain ⟨u, rfl, rx⟩ := vals1 r
  obtain rfl : u = .ref a := rx
  obtain ⟨z, hd, ys, rel, dd⟩ := dx_of I e hk
  have hl : xs.length = ys.length := Paired.length rel
  refine call_len_dictH hd dd (by rw [← hl]; rw [sizeLine_eq] at z; omega) ?_
  rw [← hl]
  exact ⟨.int ((xs.length : Nat) : Int), H, I.tok _, ⟨_, rfl⟩, q⟩
/-- d[b] -/
def tXGet (P : Program) (w : World) (K : PySem.W.Frag) (td ty : TE) : TE := fun σ H Q => td σ H fun x H1 => ty σ H1 fun y H2 => ∃ a b xs k v, x = .ref a ∧ y = .ref b ∧ H2 a = some (DO P w a xs) ∧ KeyK K H2 xs ∧ SqT K H2 b (k.map V.int) ∧ atX xs k = some v ∧ Q v H2
theorem pe_xget {o i : Expr} {pos : Pos} {td ty : TE} (hu : X.A.units + 1 < cLine) (ho : PE X o td) (hi : PE X i ty) (hs : NoSl i) : PE X (.Subscript o i pos) (tXGet X.prog X.w X.K td ty) := by
  refine ⟨fun pins s σ H Q I h => ?_⟩
  refine subD_of PySem.F.slot_dict_getitem.lookup hs (thn (ho.run pins s σ H _ I h) fun u s1 ⟨x, H1, I1, rx, q1⟩ => thn (hi.run pins s1 σ H1 _ I1 q1) fun iv s2 ⟨y, H2, I2, ry, a, b, xs, k, v, ex, ey, e, hk, hb, hv, q2⟩ => ?_)
  subst ex ey
  obtain rfl : u = Value.ref a := rx
  obtain rfl : iv = Value.ref b := ry
  obtain ⟨z, hd, ys, rel, dd⟩ := dx_of I2 e hk
  obtain ⟨w', hw, rw'⟩ := RelO.some_of (v := v) (o := (atKey ys k).map (·.2)) (by rw [← hv]; exact relE_at rel k)
  obtain ⟨p, hp, hp2⟩ := Option.map_eq_some_iff.mp hw
  refine ⟨dd.typeIs, wpAny_getItem_heap (tupleKind_room_in1 hu) (key_int I2 hb) dd hp ?_⟩
  rw [hp2]
  exact ⟨v, H2, I2.tok _, rw', q2⟩
/-- d[b] = v -/
def sXPut (P : Program) (w : World) (K : PySem.W.Frag) (td ty tv : TE) : TS := fun D σ H => tv σ H fun v H1 => td σ H1 fun x H2 => ty σ H2 fun y H3 => ∃ a b xs k, x = .ref a ∧ y = .ref b ∧ H3 a = some (DO P w a xs) ∧ KeyK K H3 xs ∧ SqT K H3 b (k.map V.int) ∧ xs.length < sizeLine ∧ D.nx σ (upd H3 a (DO P w a (stoX xs k b v)))
theorem ps_xput {o i value : Expr} {pos pos' : Pos} {td ty tv : TE} (hu : X.A.units + 1 < cLine) (ho : PE X o td) (hi : PE X i ty) (hv : PE X value tv) (hs : swapsWith value (some (.Subscript o i pos')) pos.line X.env = pure false) :
    PS X (.Assign [.Subscript o i pos'] value pos) (sXPut X.prog X.w X.K td ty tv) := by
  refine ⟨fun pins s σ H D I h => ?_⟩
  refine wpAny_Assign_Subscript (thn (hv.run pins s σ H _ I h) fun r s1 ⟨v, H1, I1, rv, q1⟩ => thn (ho.run pins s1 σ H1 _ I1 q1) fun u s2 ⟨x, H2, I2, rx, q2⟩ => thn (hi.run pins s2 σ H2 _ I2 q2) fun iv s3 ⟨y, H3, I3, ry, a, b, xs, k, ex, ey, e, hk, hb, hl, q3⟩ => ?_) hs
  subst ex ey
  obtain rfl : u = Value.ref a := rx
  obtain rfl : iv = Value.ref b := ry
  obtain ⟨z, hd, ys, rel, dd⟩ := dx_of I3 e hk
  have hz : ys.length ≤ sizeLine := by rw [← Paired.length rel]; exact z
  have hl2 : (stoX xs k b v).length ≤ sizeLine := by have := stoX_len xs k b v; omega
  refine wpAny_setItem_heap (hsz := hz) (tupleKind_room_in1 hu) (key_int I3 hb) dd fun h' dd' hs => ⟨σ, _, ?_, q3⟩
  have he : ∃ q, h'.get? a = some q := let ⟨q, _, _, hq, _⟩ := dd'; ⟨q, hq⟩
  exact d_write I3 (by rw [e]; exact True.intro) hs he (dx_new hl2 hd (relE_sto rel k b rv) dd')
/-- d.get(b) -/
def tXGet1 (P : Program) (w : World) (K : PySem.W.Frag) (td ty : TE) : TE := fun σ H Q => td σ H fun x H1 => ∃ a, x = .ref a ∧ (∃ xs, H1 a = some (DO P w a xs) ∧ KeyK K H1 xs) ∧ ty σ H1 fun y H2 => ∃ b xs k, y = .ref b ∧ H2 a = some (DO P w a xs) ∧ KeyK K H2 xs ∧ SqT K H2 b (k.map V.int) ∧ Q ((atX xs k).getD .non) H2
theorem pe_xget1 {o e : Expr} {apos cpos : Pos} {td ty : TE} (hu : X.A.units + 1 < cLine) (ho : PE X o td) (he : PE X e ty) (m : M1 X o "get" apos e cpos) : PE X (.Call (.Attribute o "get" apos) [e] [] cpos) (tXGet1 X.prog X.w X.K td ty) := by
  refine ⟨fun pins s σ H Q I h => ?_⟩
  refine wpAny_Call_method m.base m.few m.line PySem.F.plainAttrs_dict PySem.F.slot_dict_get PySem.F.type_dict_get (thn (ho.run pins s σ H _ I h) fun u s1 ⟨x, H1, I1, rx, a, ex, ⟨xs0, e0, hk0⟩, q1⟩ => ?_)
  subst ex
  obtain rfl : u = Value.ref a := rx
  obtain ⟨_, _, ys0, _, dd0⟩ := dx_of I1 e0 hk0
  refine ⟨dd0.typeIs, fun b q => ?_, ?_⟩
  · cases q
    obtain ⟨ob, _, _, h1, h2, _⟩ := dd0
    exact ⟨ob, h1, h2.2.1⟩
  · rw [m.trees]
    refine Calls.callWith_builtin rfl (Calls.evalArgs_plain (Calls.spliced_cons (thn (he.run pins s1 σ H1 _ I1 q1) fun iv s2 ⟨y, H2, I2, ry, b, xs, k, ey, e, hk, hb, q2⟩ => Calls.spliced_nil ?_)))
    subst ey
    obtain rfl : iv = Value.ref b := ry
    obtain ⟨z, hd, ys, rel, dd⟩ := dx_of I2 e hk
    refine call_meetsIn PySem.F.slot_dict_get dd.typeIs PySem.F.entry_dict_get (PySem.F.args_dict_get_2 _ _) (meetsH_dict_get (knI X.prog X.w) a b hd) ⟨tupleKind_room_in1 hu, k, ys, key_int I2 hb, dd, ⟨_, H2, I2.tok _, ?_, q2⟩⟩
    exact (relE_at rel k).getD rfl
/-- list(d) -/
def rXList (P : Program) (w : World) (K : PySem.W.Frag) : List V → Hp → VK → Prop := fun vs H Q => ∃ a xs, vs = [V.ref a] ∧ H a = some (DO P w a xs) ∧ KeyK K H xs ∧ ∀ p, H p = none → Q (.ref p) (upd H p (.lst (xs.map fun x => V.ref x.2.1)))
theorem refs_of_relE {xs : List DEnt} {ys : List (List Int × Addr × Value)} (r : Paired RelE xs ys) : Vals (xs.map fun x => V.ref x.2.1) (ys.map fun y => Value.ref y.2.1) := by
  induction r with
  | nil => exact .nil
  | @cons p q ps qs h t ih =>
    rw [List.map_cons, List.map_cons]
    exact .cons (show RelV (.ref p.2.1) (Value.ref q.2.1) by rw [h.2.1]; rfl) ih
theorem call_list_dX (hc : X.calm = true) : CallR X (.type "list") (rXList X.prog X.w X.K) := by
  intro pins s σ H vs us Q I r h
  obtain ⟨d, xs, rfl, e0, hk, q⟩ := h
  obtain ⟨u, rfl, rx⟩ := r.one
  cases rx
  obtain ⟨z, hs, ks, pr, o, es, ep, ho, hx, hdt, he, _, hn⟩ := dx_of I e0 hk
  have l1 : es.size = ks.length := size_of_entries he
  have l2 : xs.length = ks.length := Paired.length pr
  refine PySem.W.kdl_call (kdl_raw hs hx hdt) (I.ok.hd hc) ho (by omega) fun h' tk acc' c' kp e it => ?_
  have ea : acc'.toList = ks.map fun x => Value.ref x.2.1 := by
    have hl : acc'.toList.length = ks.length := by rw [Array.length_toList, it.1]; exact l1
    apply List.ext_getElem?
    intro j
    rw [List.getElem?_map]
    cases hj : acc'.toList[j]? with
    | none =>
      have h1 := List.getElem?_eq_none_iff.mp hj
      rw [List.getElem?_eq_none (by omega)]
      all_goals rfl
    | some v =>
      obtain ⟨en, hen, hv⟩ := it.2 j v (by rw [← Array.getElem?_toList]; exact hj)
      have qe := entry_at he j
      rw [hen] at qe
      cases hb : ks[j]? with
      | none =>
        rw [hb] at qe
        exact nomatch (show some en = none from qe)
      | some b =>
        rw [hb] at qe
        have e2 : en = entryOfKey (knI X.prog X.w) b := Option.some.inj qe
        rw [hv, e2]
        all_goals rfl
  have rv : Vals (xs.map fun x => V.ref x.2.1) acc'.toList := by rw [ea]; exact refs_of_relE pr
  have hz : (xs.map fun x => V.ref x.2.1).length ≤ sizeLine := by rw [List.length_map]; omega
  refine ⟨.ref s.heap.objs.size, _, I.laid (t' := tk) (o := .lst (xs.map fun x => V.ref x.2.1)) kp (Nat.le_refl _) ?_, rfl, q _ (I.hok.fresh (Nat.le_refl _))⟩
  exact ⟨hz, acc'.toList, c', rv, by rw [Array.toArray_toList]; exact e⟩
/-- {k: v}, one pair, the key a tuple of ints; the new dict stands empty while the pair is made -/
def tXDisp (P : Program) (w : World) (K : PySem.W.Frag) (tk tv : TE) : TE := fun σ H Q => ∀ p, H p = none → tPairs [(tk, tv)] σ (upd H p (DO P w p [])) fun ps H2 => ∃ v b k, ps = [(.ref b, v)] ∧ H2 p = some (DO P w p []) ∧ SqT K H2 b (k.map V.int) ∧ Q (.ref p) (upd H2 p (DO P w p [(k, b, v)]))
theorem dx_empty {P : Program} {w : World} {H : Hp} (h : Heap) (hb : sysModules < h.objs.size) : ObjOk P w H (h.push { cls := .type "dict", data := .dict #[] }) h.objs.size (DO P w h.objs.size []) :=
  dx_new (Nat.zero_le _) (beq_eq_false_iff_ne.mpr (Ne.symm (Nat.ne_of_lt hb))) .nil ⟨_, #[], 0, Heap.get?_push_size _ rfl, ⟨rfl, rfl, rfl⟩, rfl, rfl, (fun x hx => absurd hx (by simp)), List.nodup_nil⟩
theorem dict_disp_at {knd : HeapKind X.prog X.w (List Int)} {env : Env} {ke ve : Expr} {pos : Pos} {Q : Value → Shared → Prop} (hu : knd.room A)
    (h : wpAny (model X.prog X.w) A (evalPairs (pairTrees [some ke] [ve] env pos)) (fun vs s1 => ∃ ps, CarriesH knd s1.heap vs ps ∧ s1.heap.DictOfH knd s.heap.objs.size [] ∧
      ∀ h' tk, h'.DictOfH knd s.heap.objs.size (storedAllH [] ps) → Heap.SameBut s.heap.objs.size s1.heap h' → Q (.ref s.heap.objs.size) { s1 with heap := h', toks := tk }) E { s with heap := s.heap.push { cls := .type "dict", data := .dict #[] } }) :
    wpAny (model X.prog X.w) A (eval (.Dict [some ke] [ve] pos) env) Q E s := by
  have hn := pairTrees_length [some ke] [ve] env pos rfl rfl
  have h0 : pairTrees [some ke] [ve] env pos ≠ [] := fun e => by rw [e] at hn; cases hn
  rw [arm_eval_Dict, zip_pairTrees [some ke] [ve] env pos rfl rfl, dictDisplay_pairs _ h0 (by rw [hn]; exact (by decide : 1 < 17))]
  exact wpAny_bind (wpAny_standAt (wpAny_bind (wpAny_subDictH (knd := knd) (Q := fun d s' => wpAny (model X.prog X.w) A (pure (Value.ref d)) Q E s') hu (by rw [hn]; exact (by decide : 1 ≤ 15))
    (wpAny_mono h (fun vs s1 h1 => by obtain ⟨ps, hc, hm, hq⟩ := h1; exact ⟨ps, hc, hm, fun h' tk a b => wpAny_pure (hq h' tk a b)⟩) fun _ _ e => e))))
theorem pe_xdisp {ke ve : Expr} {pos : Pos} {tk tv : TE} (hu : X.A.units < cLine) (hk : PE X ke tk) (hv : PE X ve tv) : PE X (.Dict [some ke] [ve] pos) (tXDisp X.prog X.w X.K tk tv) := by
  refine ⟨fun pins s σ H Q I q => ?_⟩
  have hn := I.hok.fresh (Nat.le_refl s.heap.objs.size)
  have I1 := I.laid (a := s.heap.objs.size) (o := DO X.prog X.w s.heap.objs.size []) (h' := s.heap.push { cls := .type "dict", data := .dict #[] }) (t' := s.toks) (fun _ _ q => Heap.get?_push_of_some _ q) (Nat.le_refl _) (dx_empty s.heap I.big)
  have hpp : PPs X pos [some ke] [ve] [(tk, tv)] := pps_cons hk hv pps_nil
  refine dict_disp_at (knd := knI X.prog X.w) (X := X) hu (thn (hpp.run pins _ σ _ _ I1 (q _ hn)) fun ws s2 ⟨ps, H2, I2, rel, v, b, k, ep, e, hb, q2⟩ => ?_)
  subst ep
  obtain ⟨u1, u2, rfl, r1, r2⟩ : ∃ u1 u2, ws = [(u1, u2)] ∧ RelV (.ref b) u1 ∧ RelV v u2 := by
    cases rel with
    | cons r t =>
      cases t
      exact ⟨_, _, rfl, r.1, r.2⟩
  cases r1
  obtain ⟨z, hd, ys, pr, dd⟩ := dx_of I2 e (fun x hx => nomatch hx)
  cases pr
  refine ⟨[(k, b, u2)], ⟨rfl, rfl, key_int I2 hb, True.intro⟩, dd, fun h' tk' dd' hs => ⟨.ref s.heap.objs.size, _, ?_, rfl, q2⟩⟩
  have he : ∃ q, h'.get? s.heap.objs.size = some q := let ⟨q, _, _, hq, _⟩ := dd'; ⟨q, hq⟩
  exact d_write I2 (by rw [e]; exact True.intro) hs he (dx_new (xs := [(k, b, v)]) (by show 1 ≤ sizeLine; decide) hd (.cons ⟨rfl, rfl, r2⟩ .nil) dd')
end
/-! ### enumerate(t), t a tuple -/
open AutoSeq1 (wpAny_loadPart') in
theorem enum_new_tup (l : Addr) (items : Array Value) (n : Nat) (dct : Option Addr) (sl : Array (Option Value)) :
    Meets (Builtin.«enumerate.__new__» ⟨[.type "enumerate", .ref l], []⟩) (fun _ R s => s.heap.get? l = some { cls := .type "tuple", dict := dct, data := .seq items n, slots := sl } ∧
      R (.ok (.ret (.ref (s.heap.push { cls := .type "tuple_iterator", data := .fields #[.ref l, .int 0 0] }).objs.size)))
        { s with heap := (s.heap.push { cls := .type "tuple_iterator", data := .fields #[.ref l, .int 0 0] }).push { cls := .type "enumerate", data := .fields #[.none, .bool false, .ref s.heap.objs.size, rawInt 0, .none, .none] } }) :=
  .of_wp fun prog w A R s h => by
    obtain ⟨hp, g, d, tk, os⟩ := s
    obtain ⟨hl, h⟩ := h
    have sb := sub_enumerate
    have hT : Heap.IsTuple (Shared.heap ⟨hp, g, d, tk, os⟩) l items := ⟨_, hl, rfl, n, rfl⟩
    wp_walk using wpAny_loadPart' hl
    refine wpAny_stack_any fun st => wpAny_pure ?_
    split
    · rename_i c _ _ _ _ _
      cases (c == Value.type "enumerate") <;> (wp_walk using wpAny_loadPart' hl, wpAny_pyIter_tuple hT; exact ⟨_, rfl, h⟩)
    · wp_walk using wpAny_loadPart' hl, wpAny_pyIter_tuple hT
      exact ⟨_, rfl, h⟩
theorem enum_call_tup {prog : Program} {w : World} {A : Around} {E : Value → Shared → Prop} {s : Shared} {l : Addr} {items : Array Value} {Q : Value → Shared → Prop} (hL : s.heap.IsTuple l items)
    (h : ∀ h', IsEnum h' (s.heap.objs.size + 1) s.heap.objs.size 0 .none → h'.IsTupleIter s.heap.objs.size l 0 →
      (∀ b o, s.heap.get? b = some o → h'.get? b = some o) → Q (.ref (s.heap.objs.size + 1)) { s with heap := h' }) :
    wpAny (model prog w) A (call (.type "enumerate") [.ref l]) Q E s := by
  obtain ⟨⟨c, dct, dt, sl⟩, hl, hc, n, hd⟩ := hL
  replace hc : c = .type "tuple" := hc
  replace hd : dt = .seq items n := hd
  subst hc hd
  refine callType_new F.called_enumerate (by decide) (F.typeCall_enumerate_1 _) (F.newCall_enumerate_1 _) (fun obj => F.args_object_init_2 obj _) F.entry_enumerate_new (enum_new_tup l items n dct sl) ⟨hl, ?_⟩
  generalize hq : s.heap.push { cls := .type "tuple_iterator", data := .fields #[.ref l, .int 0 0] } = q
  have hz : q.objs.size = s.heap.objs.size + 1 := by rw [← hq]; exact Heap.size_push ..
  have hi : q.get? s.heap.objs.size = some { cls := .type "tuple_iterator", data := .fields #[.ref l, .int 0 0] } := by rw [← hq]; exact Heap.get?_push_size _ rfl
  have hk : ∀ b o, s.heap.get? b = some o → q.get? b = some o := fun b o x => by rw [← hq]; exact Heap.get?_push_of_some _ x
  have he : IsEnum (q.push { cls := .type "enumerate", data := .fields #[.none, .bool false, .ref s.heap.objs.size, rawInt 0, .none, .none] }) (s.heap.objs.size + 1) s.heap.objs.size 0 .none := by
    have e1 := Heap.get?_push_size q (o := { cls := .type "enumerate", data := .fields #[.none, .bool false, .ref s.heap.objs.size, rawInt 0, .none, .none] }) rfl
    rw [hz] at e1
    exact e1
  show _ ∧ _
  rw [hz]
  exact ⟨⟨_, he, rfl⟩, h _ he ⟨_, Heap.get?_push_of_some _ hi, rfl, rfl⟩ fun b o x => Heap.get?_push_of_some _ (hk b o x)⟩
/-- the items of the tuple at a with their places, in new pairs -/
def IteT (K : PySem.W.Frag) (a : Addr) : It :=
  ⟨fun i H => ∃ xs x, SqT K H a xs ∧ xs[i]? = some x,
    fun i H v H' => ∃ T x, v = .ref T ∧ H T = none ∧ H' = upd H T (.tup [.int (i : Nat), x]) ∧ ∀ xs, SqT K H a xs → xs[i]? = some x,
    fun i H => ∃ xs, SqT K H a xs ∧ xs.length = i⟩
theorem turn_enumT {P : Program} {w : World} {K : PySem.W.Frag} {elts : List Expr} {kk : Nat} {tpos : Pos} (a e it : Addr) :
    Turn P w K (.Tuple elts kk tpos) (IteT K a) [e, it] e (fun i h => (∃ old, IsEnum h e it ((i : Nat) : Int) old) ∧ h.IsTupleIter it a i ∧ e ≠ it ∧ a ≠ it ∧ e ≠ a) where
  mem := by simp
  obj := fun i h st b hb => by
    obtain ⟨⟨old, he⟩, ⟨o, ho, hc, hd⟩, _⟩ := st
    rcases (show b = e ∨ b = it by simpa using hb) with z | z
    · subst z; exact ⟨_, he, fun v q => nomatch q⟩
    · subst z; exact ⟨o, ho, fun v q => by rw [hd] at q; cases q⟩
  keep := fun i h h' st k => ⟨⟨st.1.choose, k e (by simp) _ st.1.choose_spec⟩, st.2.1.at fun o q => k it (by simp) o q, st.2.2⟩
  item := by
    intro X hP hw hK hc i pins s σ H E I hf st hg
    subst hP hw hK
    obtain ⟨⟨old, he⟩, hit, hne, hai, hea⟩ := st
    obtain ⟨xs, x, hq, hx⟩ := hg
    obtain ⟨its, rv, p, hz⟩ := I.tuple hq
    obtain ⟨u, hu, ru⟩ := rv.get hx
    have lt1 : ∀ b ∈ [e, it], b < s.heap.objs.size := fun b hb => by
      obtain ⟨_, q, _⟩ := id hit
      rcases (show b = e ∨ b = it by simpa using hb) with z | z
      · subst z; exact Heap.lt_size he
      · subst z; exact Heap.lt_size q
    have hil : i < its.toArray.size := by rw [List.size_toArray]; exact (List.getElem?_eq_some_iff.mp hu).1
    have D := Draws.tuple (prog := X.prog) (w := X.w) (A := X.A.in1) (show X.A.in1.handled = none from I.ok.hd hc) it a hai its.toArray
    refine wpAny_pyNext_enum_itemD D he ⟨hit, p⟩ hil hne (by simp [hne, hea]) fun y h' tk hy ho hit' hT hsz hk => ?_
    have ey : y = u := by
      have q : its.toArray[i]? = some y := hy
      rw [List.getElem?_toArray, hu] at q
      exact (Option.some.inj q).symm
    subst ey
    refine ⟨_, rfl, wpAny_letOwnedTupleGo_enum (s := { s with heap := h', toks := tk + 1 }) ho fun h'' he' sb => ?_⟩
    have hT2 : h''.get? s.heap.objs.size = some { cls := .type "tuple", data := .seq #[.int i tk, y] } := (sb.2 _ (Nat.ne_of_gt (lt1 e (by simp)))).trans hT
    have new : ObjOk X.prog X.w (upd H s.heap.objs.size (.tup [.int (i : Nat), x])) h'' s.heap.objs.size (.tup [.int (i : Nat), x]) :=
      ⟨(by show 2 ≤ sizeLine; decide), [.int i tk, y], .cons ⟨_, rfl⟩ (.cons ru .nil), ⟨_, hT2, rfl, _, rfl⟩⟩
    have I1 : Inv X pins σ (upd H s.heap.objs.size (.tup [.int (i : Nat), x])) { s with heap := h'', toks := tk + 1 } :=
      I.turnedNew (ch := [e, it]) (fun b ob hb q => (sb.2 b (fun z => hb (by simp [z]))).trans (hk b ob (fun z => hb (by simp [z])) (fun z => hb (by simp [z])) q)) hf (Nat.le_refl _) new
    refine ⟨.ref s.heap.objs.size, _, I1, rfl, ⟨_, x, rfl, I.hok.fresh (Nat.le_refl _), rfl, fun ys hy => by rw [I.tuple_inj hy hq]; exact hx⟩, ⟨⟨y, ?_⟩, hit'.1.at fun o q => (sb.2 it (Ne.symm hne)).trans q, hne, hai, hea⟩, fun b hb => ?_⟩
    · have e1 : ((i + 1 : Nat) : Int) = (i : Int) + 1 := by omega
      rw [e1]
      exact he'
    · rw [upd_ne (Nat.ne_of_lt (lt1 b hb))]
      exact (hf b hb).1
  done := by
    intro X hP hw hK hc i pins s σ H E I hf st hg
    subst hP hw hK
    obtain ⟨⟨old, he⟩, hit, hne, hai, hea⟩ := st
    obtain ⟨xs, hq, hx⟩ := hg
    obtain ⟨its, rv, p, hz⟩ := I.tuple hq
    obtain ⟨f0, f1, f2, f3, f4, f5⟩ := hf it (by simp)
    have hl := rv.length
    have D := Draws.tuple (prog := X.prog) (w := X.w) (A := X.A.in1) (show X.A.in1.handled = none from I.ok.hd hc) it a hai its.toArray
    have hi : i = its.toArray.size := by rw [List.size_toArray]; omega
    subst hi
    exact wpAny_pyNext_enum_endD D he ⟨hit, p⟩ fun h' eb => ⟨rfl, I.turned (t' := s.toks) (fun b o hb q => eb b o hb q) f0 f1 f3 f4 f5⟩
  self := fun A i s Q E st h => wpAny_pyIter_enum st.1.choose_spec h
def iEnumT (K : PySem.W.Frag) (ta : TA) : TI := fun σ H R => ta σ H fun vs H1 => ∃ a xs, vs = [.ref a] ∧ SqT K H1 a xs ∧ R (IteT K a) H1
theorem pi_enumT {X : Cx} {e : Expr} {ta : TA} {p pos tpos : Pos} {elts : List Expr} {kk : Nat} (hg : Gl X "enumerate") (hm : X.mg "enumerate" = none) (ha : PA X [e] ta) (hs : starEach [e] X.env = [(false, eval e X.env)] := by rfl) :
    PI X (.Tuple elts kk tpos) (.Call (.Name "enumerate" p) [e] [] pos) (iEnumT X.K ta) := by
  refine ⟨fun pins s σ H R I h => ?_⟩
  refine Call_ (ld_blt I hg hm boot_enumerate (PyProof.Rows.callWith_type1 (thn (ha.run pos pins s σ H _ I h) fun us s1 ⟨vs, H1, I1, r1, q1⟩ => ?_) hs rfl))
  obtain ⟨a, xs, ex, hq, q⟩ := q1
  subst ex
  obtain ⟨u, rfl, ru⟩ := vals1 r1
  cases ru
  obtain ⟨its, rv, p', hz⟩ := I1.tuple hq
  obtain ⟨ob, ho, _⟩ := id p'
  have hal : a < s1.heap.objs.size := Heap.lt_size ho
  refine enum_call_tup (show s1.heap.IsTuple a its.toArray from p') fun h' he hit hk => wpAny_pyIter_enum he ?_
  have I2 : Inv X pins σ H1 { s1 with heap := h' } := I1.kept (t' := s1.toks) hk
  refine ⟨s1.heap.objs.size + 1, [s1.heap.objs.size + 1, s1.heap.objs.size], _, _, H1, rfl, I2, turn_enumT a (s1.heap.objs.size + 1) s1.heap.objs.size, ⟨⟨.none, he⟩, hit, Nat.succ_ne_self _, Nat.ne_of_lt hal, Nat.ne_of_gt (Nat.lt_succ_of_lt hal)⟩, fun b hb => ?_, q⟩
  rcases (show b = s1.heap.objs.size + 1 ∨ b = s1.heap.objs.size by simpa using hb) with z | z
  · subst z; exact I1.fpOk (Nat.le_succ _) (I1.hok.fresh (Nat.le_succ _))
  · subst z; exact I1.fpOk (Nat.le_refl _) (I1.hok.fresh (Nat.le_refl _))
theorem walk_enumT {K : PySem.W.Frag} {a : Addr} {xs : List V} : Walk (IteT K a) xs.length (fun H => SqT K H a xs) (YPair (fun i => some (.int (i : Nat))) (fun i => xs[i]?)) := by
  refine ⟨fun i _ hi q => ⟨xs, xs[i], q, by simp [hi]⟩, fun _ q => ⟨xs, q, rfl⟩, fun i H v H' _ q y => ?_⟩
  obtain ⟨T, x, h1, h2, h3, h4⟩ := y
  exact ⟨T, .int (i : Nat), x, h1, h2, h3, rfl, h4 xs q⟩
/-! ### list(reversed(xs)) -/
section
variable {prog : Program} {w : World} {A : Around} {E : Value → Shared → Prop} {s : Shared}
theorem list_rev_init {R : Result → Shared → Prop} {it l S : Addr} {items : Array Value} {c0 : Nat} (hh : A.handled = none) (hit : s.heap.IsRevIter it l ((items.size : Int) - 1)) (hl : s.heap.IsList l items) (hne : l ≠ it) (hSi : S ≠ it) (hSl : S ≠ l) (hn : items.size ≤ sizeLine)
    (hS : s.heap.get? S = some { cls := .type "list", data := .seq #[] c0 })
    (hR : ∀ h' tk acc c', (∀ b o, b ≠ S → b ≠ it → s.heap.get? b = some o → h'.get? b = some o) → h'.get? S = some { cls := .type "list", dict := none, data := .seq acc c', slots := #[] } → ItemsOf (fun i v => items[items.size - 1 - i]? = some v) acc items.size → R (.ok (.ret .none)) { s with heap := h', toks := tk }) :
    wpAny (model prog w) A.in1 (Builtin.«list.__init__» ⟨[.ref S, .ref it], []⟩)
      (fun fin s' => match fin with | .done f => R (.ok f) s' | .again c' => c'.quiet = true ∧ codeAny (model prog w) A c' R s') (fun e s' => R (.error e) s') s := by
  show wpAny _ _ (do let old ← Builtin.List.listItems (.ref S); Builtin.List.listUpdate (.ref S) (fun _ => #[]); letGo old.toList.reverse; Builtin.List.listExtendWith (.ref S) (.ref it) .none) _ _ s
  refine wpAny_bind ?_
  unfold Builtin.List.listItems
  refine wpAny_bind (wpAny_seqItems hS rfl (wpAny_pure ?_))
  show wpAny _ _ (updateSeq S (fun _ => #[]) >>= fun _ => letGo (#[] : Array Value).toList.reverse >>= fun _ => Builtin.List.listExtendWith (.ref S) (.ref it) .none) _ _ s
  refine wpAny_bind (wpAny_updateSeq hS rfl ?_)
  have hS2 := Heap.get?_update_self (Obj.mapSeq (fun _ => (#[] : Array Value))) hS rfl
  have oth : ∀ b o, b ≠ S → s.heap.get? b = some o → (s.heap.update S (Obj.mapSeq (fun _ => (#[] : Array Value)))).get? b = some o := fun b o hb e => (Heap.get?_update_other _ _ (Ne.symm hb)).trans e
  refine wpAny_bind (wpAny_letGo ?_)
  generalize s.heap.update S (Obj.mapSeq (fun _ => (#[] : Array Value))) = h2 at hS2 oth
  have hit2 : h2.IsRevIter it l ((items.size : Int) - 1) := hit.at fun o e => oth it o (Ne.symm hSi) e
  have hl2 : h2.IsList l items := hl.at fun o e => oth l o (Ne.symm hSl) e
  have hT : ({ s with heap := h2 } : Shared).TypeIs (.ref it) "list_reverseiterator" := Heap.IsRevIter.typeIs (s := { s with heap := h2 }) hit2
  have h1 : Builtin.List.listSameRef (.ref S) (.ref it) = false := by simp [Builtin.List.listSameRef, hSi]
  unfold Builtin.List.listExtendWith
  refine wpAny_bind (wpAny_typeOf hT ?_)
  rw [if_neg (by rw [h1]; decide)]
  refine wpAny_bind (wpAny_pyIter_revIter (s := { s with heap := h2 }) hit2 ?_)
  refine wpAny_bind (wpAny_holding ?_)
  unfold Builtin.List.listLengthHint
  refine wpAny_bind (wpAny_specialOf hT RT.nolen_lri ?_)
  show wpAny _ _ (specialOf (Value.ref it) (Str.ofString "__length_hint__") >>= _) _ _ _
  refine wpAny_bind (wpAny_specialOf hT RT.hint_lri ?_)
  generalize hid : ("list_reverseiterator.__length_hint__" : String) = id0
  wp_delta
  rw [show splitId id0 = some ("list_reverseiterator", "__length_hint__") from by subst hid; decide +kernel]
  subst hid
  refine wpAny_bind (wpAny_isInstance (b := true) hT (by rw [isSubtype_type]; kernel_rfl) ?_)
  refine wpAny_pure ?_
  rw [if_neg (by decide)]
  have W := (Walks.listRev (prog := prog) (w := w) (A := A.in1) hh it l hne items).toS
  have hSf : S ∉ [it, l] := by simp [hSi, hSl]
  have e0 : (items.size : Int) - 1 - ((0 : Nat) : Int) = (items.size : Int) - 1 := by omega
  refine wpAny_pure ⟨plainId_quiet PySem.F.plain_extend_loop _, codeAny_extend_loopS W hn S hSf _ items.size 0 _ _ _ rfl (Nat.zero_le _) ⟨Nat.zero_le _, by rw [e0]; exact hit2, hl2⟩ hS2 (ItemsOf.nil _) fun s' acc' c' hm hS' hacc => ?_⟩
  rw [Moved.eq_with hm]
  refine hR s'.heap s'.toks acc' c' (fun b o hb hbi e => hm.heap b o (fun hmem => ?_) (oth b o hb e)) hS' hacc
  rcases List.mem_cons.mp hmem with e' | hmem
  · exact hb e'
  · exact hbi (List.mem_singleton.mp hmem)
theorem call_list_rev {it l : Addr} {items : Array Value} {Q : Value → Shared → Prop} (hh : A.handled = none) (hit : s.heap.IsRevIter it l ((items.size : Int) - 1)) (hl : s.heap.IsList l items) (hne : l ≠ it) (hn : items.size ≤ sizeLine)
    (hQ : ∀ h' tk acc c', (∀ b o, b ≠ it → s.heap.get? b = some o → h'.get? b = some o) → h'.get? s.heap.objs.size = some { cls := .type "list", dict := none, data := .seq acc c', slots := #[] } → ItemsOf (fun i v => items[items.size - 1 - i]? = some v) acc items.size → Q (.ref s.heap.objs.size) { s with heap := h', toks := tk }) :
    wpAny (model prog w) A (call (.type "list") [.ref it]) Q E s := by
  refine callType_codes (Q₁ := fun obj s₁ => obj = .ref s.heap.objs.size ∧ s₁ = { s with heap := s.heap.push { cls := .type "list", data := .seq #[] } }) PySem.F.called_list (PySem.F.typeCall_list_1 _) PySem.F.entry_list_init
    (code_list_new _ ⟨rfl, rfl⟩) fun obj s1 h1 => ?_
  obtain ⟨rfl, rfl⟩ := h1
  obtain ⟨oi, hoi, _⟩ := id hit
  obtain ⟨ol, hol, _⟩ := id hl
  have hS : (s.heap.push { cls := .type "list", data := .seq #[] }).get? s.heap.objs.size = some { cls := .type "list", data := .seq #[] } := Heap.get?_push_size _ rfl
  refine ⟨⟨_, hS, rfl⟩, PySem.F.args_list_init_2 _ _, list_rev_init (A := A.in1) hh (hit.at fun o e => Heap.get?_push_of_some _ e) (hl.push _) hne (Nat.ne_of_gt (Heap.lt_size hoi)) (Nat.ne_of_gt (Heap.lt_size hol)) hn hS fun h' tk acc c' hk hS' hacc => ?_⟩
  exact ⟨rfl, hQ h' tk acc c' (fun b o hb e => hk b o (Nat.ne_of_lt (Heap.lt_size e)) hb (Heap.get?_push_of_some _ e)) hS' hacc⟩
end
section
variable {X : Cx}
/-- list(reversed(x)), x a list: a new list -/
def tLstRev (K : PySem.W.Frag) (te : TE) : TE := fun σ H Q => te σ H fun v H1 => ∃ (a : Addr) (xs : List V), v = .ref a ∧ SqL K H1 a xs ∧ ∀ q, H1 q = none → Q (.ref q) (upd H1 q (.lst xs.reverse))
theorem pe_lstRev {e : Expr} {te : TE} {p p2 pos pos2 : Pos} (hc : X.calm = true) (hg : Gl X "list") (hm : X.mg "list" = none) (hg2 : Gl X "reversed") (hm2 : X.mg "reversed" = none) (he : PE X e te)
    (hs : starEach [e] X.env = (false, eval e X.env) :: starEach [] X.env := by rfl)
    (hs2 : starEach [.Call (.Name "reversed" p2) [e] [] pos2] X.env = (false, eval (.Call (.Name "reversed" p2) [e] [] pos2) X.env) :: starEach [] X.env := by rfl) :
    PE X (.Call (.Name "list" p) [.Call (.Name "reversed" p2) [e] [] pos2] [] pos) (tLstRev X.K te) := by
  refine ⟨fun pins s σ H Q I h => ?_⟩
  have inner := fun (R : Value → Shared → Prop) (hR : ∀ u s1 v H1, Inv X pins σ H1 s1 → RelV v u → (∃ (a : Addr) (xs : List V), v = .ref a ∧ SqL X.K H1 a xs ∧ ∀ q, H1 q = none → Q (.ref q) (upd H1 q (.lst xs.reverse))) → wpAny (model X.prog X.w) X.A (call (.type "reversed") [u]) R X.xe s1) =>
    (Call_ (ld_blt (pos := p2) I hg2 hm2 PyProof.Rows.boot_reversed (PyProof.Rows.callWith_type1 (args_cons (thn (he.run pins s σ H _ I h) fun u s1 ⟨v, H1, I1, r1, q1⟩ => args_nil (hR u s1 v H1 I1 r1 q1)) hs) hs rfl)) : wpAny (model X.prog X.w) X.A (eval (.Call (.Name "reversed" p2) [e] [] pos2) X.env) R X.xe s)
  refine Call_ (ld_blt I hg hm boot_list (PyProof.Rows.callWith_type1 (args_cons (inner _ fun u s1 v H1 I1 r1 q1 => ?_) hs2) hs2 rfl))
  obtain ⟨a, xs, ev, hq, q⟩ := q1
  subst ev
  obtain rfl : u = Value.ref a := r1
  obtain ⟨its, rv, p', hz⟩ := I1.list hq
  refine call_reversed_list p'.isList (args_nil ?_)
  obtain ⟨f0, f1, f2, f3, f4, f5⟩ := I1.fpOk (H' := H1) (b := s1.heap.objs.size) (Nat.le_refl _) (I1.hok.fresh (Nat.le_refl _))
  have hl := p'.isList
  obtain ⟨ol, hol, _⟩ := id hl
  have hn : its.toArray.size ≤ sizeLine := by rw [List.size_toArray, ← rv.length]; exact hz
  generalize ho : revObj a ((its.toArray.size : Int) - 1) = ro
  have I2 : Inv X pins σ H1 { s1 with heap := s1.heap.push ro } := I1.kept (t' := s1.toks) fun b o e => Heap.get?_push_of_some _ e
  have hz2 : (s1.heap.push ro).objs.size = s1.heap.objs.size + 1 := Heap.size_push ..
  have hri : (s1.heap.push ro).IsRevIter s1.heap.objs.size a ((its.toArray.size : Int) - 1) := by rw [← ho]; exact ⟨_, Heap.get?_push_size _ rfl, rfl, rfl⟩
  refine call_list_rev (s := { s1 with heap := s1.heap.push ro }) (I1.ok.hd hc) hri (hl.push _) (Nat.ne_of_lt (Heap.lt_size hol)) hn fun h' tk acc c' hk hS hi => ?_
  have hS1 : h'.get? (s1.heap.objs.size + 1) = some { cls := .type "list", dict := none, data := .seq acc c', slots := #[] } := by rw [← hz2]; exact hS
  have new : ObjOk X.prog X.w (upd H1 (s1.heap.objs.size + 1) (.lst xs.reverse)) h' (s1.heap.objs.size + 1) (.lst xs.reverse) :=
    ⟨by rw [List.length_reverse]; exact hz, acc.toList, c', RT.vals_rev rv hi, by rw [Array.toArray_toList]; exact hS1⟩
  have I3 : Inv X pins σ (upd H1 (s1.heap.objs.size + 1) (.lst xs.reverse)) { s1 with heap := h', toks := tk } :=
    I2.turnedNew (t' := tk) (ch := [s1.heap.objs.size]) (fun b ob hb q => hk b ob (fun z => hb (by simp [z])) q) (fun b hb => by
      have z : b = s1.heap.objs.size := by simpa using hb
      subst z
      exact ⟨f0, f1, f2, f3, f4, f5⟩) (by rw [hz2]; exact Nat.le_refl _) new
  rw [show (s1.heap.push ro).objs.size = s1.heap.objs.size + 1 from hz2]
  exact ⟨.ref (s1.heap.objs.size + 1), _, I3, rfl, q _ (I1.hok.fresh (Nat.le_succ _))⟩
end
/-! ### min(t), max(t), t a tuple of ints -/
theorem dpAll_ints {K : PySem.W.Frag} {H : Hp} : ∀ ns : List Int, DpAll K H (ns.map V.int) (ns.map PyData.int)
  | [] => .nil
  | n :: ns => .cons (.int n) (dpAll_ints ns)
theorem alike_ints (ns : List Int) : PySem.W.AlikeAll (ns.map PyData.int) := by
  refine ⟨fun x hx y hy => ?_, fun x hx => ?_⟩
  · obtain ⟨i, _, rfl⟩ := List.mem_map.mp hx
    obtain ⟨j, _, rfl⟩ := List.mem_map.mp hy
    rfl
  · obtain ⟨i, _, rfl⟩ := List.mem_map.mp hx
    exact fun z => nomatch z
theorem depth_ints : ∀ ns : List Int, PyData.depthAll (ns.map PyData.int) = 0
  | [] => rfl
  | n :: ns => by
    show max 0 (PyData.depthAll (ns.map PyData.int)) = 0
    rw [depth_ints ns]
    rfl
def rMinT (K : PySem.W.Frag) : List V → Hp → VK → Prop := fun vs H Q => ∃ (a : Addr) (n : Int) (ns : List Int), vs = [V.ref a] ∧ SqT K H a ((n :: ns).map V.int) ∧ Q (.int (ns.foldl min n)) H
def rMaxT (K : PySem.W.Frag) : List V → Hp → VK → Prop := fun vs H Q => ∃ (a : Addr) (n : Int) (ns : List Int), vs = [V.ref a] ∧ SqT K H a ((n :: ns).map V.int) ∧ Q (.int (ns.foldl max n)) H
section
variable {X : Cx}
theorem cr_minT (hc : X.calm = true) (hu : X.A.units + 64 < cLine) : CallR X (.builtin "min") (rMinT X.K) := by
  intro pins s σ H vs us Q I r h
  obtain ⟨a, n, ns, rfl, hq, q⟩ := h
  rw [Vals.ref1 r]
  obtain ⟨its, rv, p, hz⟩ := I.tuple hq
  obtain ⟨as, rd⟩ := Dp.readsAll I _ _ _ (dpAll_ints (n :: ns)) rv
  refine PySem.W.min_tuple_data (vs := its.toArray) (x := .int n) (xs := ns.map PyData.int) (I.ok.hd hc) p (by simpa using rd) (alike_ints (n :: ns)) (by rw [show PyData.depthAll (PyData.int n :: ns.map PyData.int) = 0 from depth_ints (n :: ns)]; omega) fun i v h' tk bs hv hr hk => ?_
  rw [PySem.W.minD_ints] at hr
  cases hr with
  | int i t => exact ⟨.int _, H, I.kept (t' := tk) hk, ⟨_, rfl⟩, q⟩
theorem cr_maxT (hc : X.calm = true) (hu : X.A.units + 64 < cLine) : CallR X (.builtin "max") (rMaxT X.K) := by
  intro pins s σ H vs us Q I r h
  obtain ⟨a, n, ns, rfl, hq, q⟩ := h
  rw [Vals.ref1 r]
  obtain ⟨its, rv, p, hz⟩ := I.tuple hq
  obtain ⟨as, rd⟩ := Dp.readsAll I _ _ _ (dpAll_ints (n :: ns)) rv
  refine PySem.W.max_tuple_data (vs := its.toArray) (x := .int n) (xs := ns.map PyData.int) (I.ok.hd hc) p (by simpa using rd) (alike_ints (n :: ns)) (by rw [show PyData.depthAll (PyData.int n :: ns.map PyData.int) = 0 from depth_ints (n :: ns)]; omega) fun i v h' tk bs hv hr hk => ?_
  rw [PySem.W.maxD_ints] at hr
  cases hr with
  | int i t => exact ⟨.int _, H, I.kept (t' := tk) hk, ⟨_, rfl⟩, q⟩
/-- a text, once -/
theorem op_mul_str1 : OpR X (binaryOp .Mult) (fun x y H Q => ∃ z, x = .str z ∧ y = .int 1 ∧ Q (.str z) H) := by
  intro pins s σ H x y v u Q I rx ry h
  obtain ⟨z, rfl, rfl, q⟩ := h
  obtain ⟨t, rfl⟩ := rx
  obtain ⟨t', rfl⟩ := ry
  refine PySem.P.mul_str (by decide) (fun _ h2 => absurd h2 (by simp)) (fun _ h2 => absurd h2 (by simp)) ?_
  rw [if_neg (by decide), if_pos (by simp)]
  exact ⟨.str z, H, I, ⟨t, rfl⟩, q⟩
end
/-! ### set(xs), xs a list of ints; sorted(set(xs)) -/
section
variable {P : Program} {w : World} {A : Around} {E : Value → Shared → Prop} {s : Shared}
def emptyS (w : World) : Obj := { cls := .type "set", dict := none, data := .set #[] 0 (.fresh 0 0 (!w.params.followText "set-order")) }
set_option maxHeartbeats 3200000 in
theorem call_set_lst {l : Addr} {items : Array Value} (ns : List Int) {Q : Value → Shared → Prop} (hh : A.handled = none) (hl : s.heap.IsList l items) (hit : IntsAre items.toList ns) (hb : ns.length + 1 < scanBound)
    (h : ∀ (h' : Heap) (tk c : Nat), SetR w h' s.heap.objs.size (fun j => decide (j ∈ ns)) c → c ≤ ns.length → (∀ b o, s.heap.get? b = some o → h'.get? b = some o) → Q (.ref s.heap.objs.size) { s with heap := h', toks := tk }) :
    wpAny (model P w) A (call (.type "set") [.ref l]) Q E s := by
  have hisz : items.size = ns.length := by have q := IntsAre.length hit; rw [Array.length_toList] at q; exact q
  have hval : ∀ (i : Nat) (v : Value), items[i]? = some v → ∃ k t, ns[i]? = some k ∧ v = .int k t := fun i v hv => by
    have hi : i < ns.length := by rw [← hisz]; exact (Array.getElem?_eq_some_iff.mp hv).1
    obtain ⟨t, e⟩ := PyProof.Rows.IntsAre.int_at hit i v (by rw [Array.getElem?_toList]; exact hv)
    exact ⟨ns[i], t, List.getElem?_eq_getElem hi, by rw [e, List.getD_eq_getElem?_getD, List.getElem?_eq_getElem hi] <;> rfl⟩
  obtain ⟨c, tl, hmro⟩ := F.called_set.mro
  have hmade := F.called_set.made
  have hsub := F.called_set.sub
  refine wpAny_call (codeAny_of_tree ?_)
  show wpAny _ _ (callAny (.type "set") _) _ _ _
  refine wpAny_pure ⟨Code.quiet_builtin _ (by decide +kernel), codeAny_builtin F.entry_type_call ?_⟩
  rw [Around.under_plain (weight_type_call_type "set" [.ref l] []) rfl]
  have h1 := F.called_set.notType
  have h2 := F.called_set.canCreate
  have hct := F.typeCall_set_1 (.ref l)
  repeat (any_goals (first | assumption | wp_step))
  refine codeAny_mono (code_set_led1 (.ref l) (E := E) (Q₁ := fun obj s₁ => obj = .ref s.heap.objs.size ∧ s₁ = { s with heap := s.heap.push (emptyS w) }) ⟨rfl, rfl⟩) fun r s1 hr => ?_
  cases r with
  | error e => exact hr
  | ok fl =>
    cases fl with
    | ret obj =>
      obtain ⟨rfl, rfl⟩ := hr
      have hS : (s.heap.push (emptyS w)).get? s.heap.objs.size = some (emptyS w) := Heap.get?_push_size _ rfl
      have hT : Shared.TypeIs { s with heap := s.heap.push (emptyS w) } (.ref s.heap.objs.size) "set" := ⟨_, hS, rfl⟩
      have hli := F.called_set.init.lookup
      have hbi := F.called_set.init.bind (.ref s.heap.objs.size)
      repeat (any_goals (first | assumption | wp_step))
      refine codeAny_mono (codeAny_call_builtin (R := wants (fun r s₂ => r = .none ∧ ∃ h' tk c, s₂ = { s with heap := h', toks := tk } ∧ SetR w h' s.heap.objs.size (fun j => decide (j ∈ ns)) c ∧ c ≤ ns.length ∧
          (∀ b o, s.heap.get? b = some o → h'.get? b = some o)) E) F.called_set.init.plain F.entry_set_init (check_set_init_1 hT ?_)) fun r2 s2 hr2 => ?_
      · obtain ⟨⟨ocls, odict, odata, oslots⟩, hol, hcl, nl, hdl⟩ := hl
        simp only at hcl hdl
        subst hcl hdl
        have hol' : (s.heap.push (emptyS w)).get? l = some { cls := .type "list", dict := odict, data := .seq items nl, slots := oslots } := Heap.get?_push_of_some _ hol
        have q1 := F.sub_list_set
        have q2 := F.sub_list_frozenset
        have q3 : (Value.type "list" == Value.type "dict") = false := by decide
        have hl1 : (s.heap.push (emptyS w)).IsList l items := ⟨_, hol', rfl, nl, rfl⟩
        unfold Builtin.«set.__init__» noKeywords Builtin.Frozenset.updateFrom
        generalize hPI : pyIter = PI
        wp_walk
        subst hPI
        refine wpAny_pyIter_list hl1 (wpAny_bind (wpAny_runValue ?_))
        have hlS : l < s.heap.objs.size := Heap.lt_size hol
        have hh3 : A.in1.in1.in1.handled = none := by simp [hh]
        have hz1 : (s.heap.push (emptyS w)).objs.size = s.heap.objs.size + 1 := Heap.size_push ..
        have hneI : l ≠ (s.heap.push (emptyS w)).objs.size := by rw [hz1]; exact Nat.ne_of_lt (Nat.lt_succ_of_lt hlS)
        have hSf : s.heap.objs.size ∉ [(s.heap.push (emptyS w)).objs.size, l] := by
          rw [hz1]
          simp only [List.mem_cons, List.not_mem_nil, or_false, not_or]
          exact ⟨Nat.ne_of_lt (Nat.lt_succ_self _), Nat.ne_of_gt hlS⟩
        refine set_update_ints ((Walks.list hh3 _ l hneI items).toS) s.heap.objs.size hSf ns hisz hb hval (items.size - 0) 0 _ (by omega) (Nat.zero_le _) ⟨⟨_, Heap.get?_push_size _ rfl, rfl, rfl⟩, (hl1.push _)⟩ ?hS0 ?hR
        case hS0 => exact ⟨0, Nat.le_refl 0, setR_new_at (Heap.get?_push_of_some _ hS)⟩
        case hR =>
          intro s' c' hm hc' hS'
          obtain ⟨h', g2, d', tk', os'⟩ := s'
          have eg : g2 = s.gens := hm.gens
          have ed : d' = s.drawn := hm.drawn
          have eo : os' = s.os := hm.os
          subst eg ed eo
          show wpAny _ _ _ _ _ _
          refine wpAny_pure ?_
          show wpAny _ _ (ret Value.none) _ _ _
          rw [hisz] at hc'
          refine wpAny_pure ⟨rfl, h', tk', c', rfl, hS', hc', fun b o e => ?_⟩
          have hb0 : b < s.heap.objs.size := Heap.lt_size e
          refine hm.heap b o ?_ (Heap.get?_push_of_some _ (Heap.get?_push_of_some _ e))
          simp only [List.mem_cons, List.not_mem_nil, or_false, not_or]
          exact ⟨Nat.ne_of_lt hb0, by rw [hz1]; exact Nat.ne_of_lt (Nat.lt_succ_of_lt hb0)⟩
      · cases r2 with
        | error e => exact hr2
        | ok fl2 =>
          cases fl2 with
          | ret r =>
            obtain ⟨rfl, h', tk, c', rfl, hS', hc', hk'⟩ := hr2
            repeat (any_goals (first | assumption | wp_step))
            exact h _ _ _ hS' hc' hk'
          | _ => exact hr2.elim
    | _ => exact hr.elim
end
def rSetL0 (w : World) (K : PySem.W.Frag) : List V → Hp → VK → Prop := fun xs H Q => ∃ (l : Addr) (ns : List Int), xs = [.ref l] ∧ SqL K H l (ns.map V.int) ∧ ns.length ≤ 60 ∧ ∀ p c, H p = none → c ≤ ns.length → Q (.ref p) (upd H p (SetO w p (fun j => decide (j ∈ ns)) c))
theorem cr_setL {X : Cx} (hc : X.calm = true) : CallR X (.type "set") (rSetL0 X.w X.K) := by
  intro pins s σ H xs us Q I r h
  obtain ⟨l, ns, rfl, hq, h60, q⟩ := h
  rw [Vals.ref1 r]
  obtain ⟨its, rv, p, hz⟩ := I.list hq
  refine call_set_lst ns (I.ok.hd hc) p.isList (by simpa using rv.ints) (by unfold scanBound; omega) fun h' tk c hS hc' hk => ?_
  exact ⟨.ref s.heap.objs.size, _, I.laid (t' := tk) hk (Nat.le_refl _) (setO_new hS), rfl, q _ _ (I.hok.fresh (Nat.le_refl _)) hc'⟩
/-! ### a list times 0 or 1 -/
section
variable {X : Cx}
def rMulLi (K : PySem.W.Frag) : R2 := fun x y H Q => ∃ a xs i, x = .ref a ∧ y = .int i ∧ SqL K H a xs ∧ (i = 0 ∨ i = 1) ∧ ∀ p, H p = none → Q (.ref p) (upd H p (.lst (if i = 1 then xs else [])))
theorem op_mul_li : OpR X (binaryOp .Mult) (rMulLi X.K) := by
  intro pins s σ H x y v w Q I rx ry h
  obtain ⟨a, xs, i, rfl, rfl, hs, hi, q⟩ := h
  cases (show v = Value.ref a from rx)
  obtain ⟨tk, rfl⟩ := ry
  obtain ⟨its, rv, ⟨⟨cl, dd, dat, slo⟩, n, ho, hcl, hdn, hdt⟩, hlen⟩ := I.list hs
  cases (show cl = Value.type "list" from hcl)
  cases (show dat = Data.seq its.toArray n from hdt)
  have hz : its.length ≤ sizeLine := by rw [← rv.length]; exact hlen
  have hline := sizeLine_eq
  have h1 : i.toNat ≤ 1 := by omega
  have hm : its.toArray.size * i.toNat ≤ its.length := by
    rw [List.size_toArray]
    exact Nat.le_trans (Nat.mul_le_mul_left _ h1) (Nat.le_of_eq (Nat.mul_one _))
  have hb := lm_list_mul_any a its.toArray n dd slo i tk (by simp [Builtin.List.listFitsIndex]; omega) (by omega) (by simp only [Builtin.List.listTooLong, decide_eq_true_eq]; omega)
  have ha := lm_int_rmul_list_any i tk a its.toArray n dd slo
  have back : List.foldl (fun p r => p ++ r) #[] (List.replicate (if its.toArray.isEmpty = true then 0 else i.toNat) its.toArray) = (if i = 1 then its else []).toArray := by
    rw [listMul_foldl_if]
    rcases hi with rfl | rfl
    · simp
    · simp
  refine wpAny_binaryOp_repeat_ref (U := "int") (T := "list") (by decide) ⟨_, ho, rfl⟩ (fun s2 => typeIs_int s2 i tk) noFill_list_mul F.fills_int_mul F.slot_int_rmul repeat_list F.slot_int_index.lookup ?_
  refine call_meets F.slot_int_rmul (typeIs_int s i tk) F.entry_int_rmul (F.args_int_rmul_2 _ _) ha ⟨ho, rfl, ⟨_, ho, rfl⟩, ?_⟩
  refine call_meets F.slot_list_mul ⟨_, ho, rfl⟩ F.entry_list_mul (F.args_list_mul_2 _ _) hb ⟨ho, ?_⟩
  rw [back]
  refine ⟨.ref s.heap.objs.size, upd H s.heap.objs.size (.lst (if i = 1 then xs else [])), I.laid (t' := s.toks) (fun b o e => Heap.get?_push_of_some _ e) (Nat.le_refl _) ⟨?_, _, 0, ?_, Heap.get?_push_size _ rfl⟩, rfl, q _ (I.hok.fresh (Nat.le_refl _))⟩
  · rcases hi with rfl | rfl
    · exact Nat.zero_le _
    · exact hlen
  · rcases hi with rfl | rfl
    · exact .nil
    · exact rv
end
def top (i : Nat) : Stmt := PySem.Challenge.pw_beamrows_k55_whole_kept_or_late.main.body.getD i (.Pass ⟨0, 0, 0, 0⟩)
abbrev s_byte_count : Stmt := top 5
abbrev s_beat_count : Stmt := top 6
abbrev s_is_table : Stmt := top 12
abbrev s_row_of : Stmt := top 13
abbrev s_next_rows : Stmt := top 14
abbrev s_long_of : Stmt := top 19
abbrev s_want_room : Stmt := top 20
abbrev s_addresses : Stmt := top 21
abbrev s_is_crossed : Stmt := top 22
abbrev s_page_sign : Stmt := top 23
abbrev s_page_signs : Stmt := top 24
abbrev s_is_within : Stmt := top 32
abbrev s_more_parts : Stmt := top 33
abbrev s_less_parts : Stmt := top 34
abbrev s_x_behind : Stmt := top 35
abbrev s_x_where : Stmt := top 36
abbrev s_x_gone : Stmt := top 37
abbrev s_if_comes : Stmt := top 38
abbrev s_comes_of : Stmt := top 39
abbrev s_is_between : Stmt := top 40
abbrev s_is_cell : Stmt := top 41
abbrev s_are_rising : Stmt := top 42
abbrev s_are_entries : Stmt := top 43
abbrev s_are_cells : Stmt := top 44
abbrev s_is_within_one : Stmt := top 45
abbrev s_cell_keeps : Stmt := top 46
abbrev s_right_times : Stmt := top 47
abbrev s_most_towards : Stmt := top 48
abbrev s_is_line_begin : Stmt := top 49
abbrev s_is_flow : Stmt := top 50
abbrev s_right_late : Stmt := top 51
abbrev s_keys_behind : Stmt := top 54
abbrev s_least_keys : Stmt := top 55
abbrev s_rows_of_way : Stmt := top 57
abbrev s_times_of : Stmt := top 58
abbrev s_law_mixed : Stmt := top 60
abbrev s_law_deck : Stmt := top 61
abbrev s_law_next : Stmt := top 62
abbrev s_law_deeds : Stmt := top 63
abbrev s_law_most : Stmt := top 64
abbrev s_law_name : Stmt := top 65
abbrev s_law_value : Stmt := top 66
abbrev s_law_beats : Stmt := top 67
abbrev s_law_free : Stmt := top 68
abbrev s_law_tamed : Stmt := top 69
abbrev s_law_next_rows : Stmt := top 70
abbrev s_law_may_be_late : Stmt := top 71
abbrev s_law_with_waits : Stmt := top 72
abbrev s_law : Stmt := top 73
abbrev s_Seeking_init : Stmt := inClass (top 56) 0
abbrev s_Seeking_put : Stmt := inClass (top 56) 1
abbrev s_Seeking_go_on : Stmt := inClass (top 56) 2
abbrev s_Seeking_seek : Stmt := inClass (top 56) 3
abbrev s_Seeking_paper : Stmt := inClass (top 56) 4
/-! ### defs by name, their promises, calls -/
abbrev FnP (K : PySem.W.Frag) (x q : Str) (st : Stmt) (f : Addr) (fd : FuncData) : Prop := FunD K x q (defArgs st) (defBody st) (defScope st) [] [] f fd
/-- the def st stands behind the module's name x -/
def At (K : PySem.W.Frag) (mg : Str → Option Value) (x : Str) (st : Stmt) : Prop := ∃ f fd, FnP K x x st f fd ∧ mg x = some (.ref f)
/-- what stands behind the module's name x keeps the promise sp, at level k -/
def Ok (P : Program) (w : World) (K : PySem.W.Frag) (mg : Str → Option Value) (base : Heap) (k : Nat) (x : Str) (ps : List Str) (sp : Sp) : Prop :=
  ∃ f fd, FnOk P w K mg base CX0 k f fd ps sp ∧ mg x = some (.ref f) ∧ PySem.W.keepIn K (.ref f) = true ∧ Binds K fd ps []
/-- the module's name x is a tuple of these -/
def Tup (K : PySem.W.Frag) (mg : Str → Option Value) (x : Str) (xs : List V) : Prop := ∃ a, mg x = some (.ref a) ∧ ∀ H, SqT K H a xs
def Num (mg : Str → Option Value) (x : Str) (n : Int) : Prop := ∃ t, mg x = some (.int n t)
section
variable {P : Program} {w : World} {K : PySem.W.Frag} {mg : Str → Option Value} {base : Heap}
theorem At.ok {x : Str} {st : Stmt} {N ps : List Str} {k : Nat} {sp : Sp} (a : At K mg x st) (S : FnScope N ps (defScope st))
    (hb : ∀ (kV doc pm : Value) (an : Option Addr) (cdv ct : Value) (us : List Value), us.length = ps.length → bindArgs (PySem.W.fnOf x x (defArgs st) (defBody st) (defScope st) .none kV doc pm an cdv ct) ⟨us, []⟩ = pure (ps.zip us))
    (len : ∀ vs H Q E, sp vs H Q E → vs.length = ps.length)
    (hbody : ∀ (f : Addr) (cdv : Value) (A : Around) (outer : List Env) (s : Shared) (H : Hp) (vs : List V) (Q : VK) (E : XK), Room k (A.deeper (envOfC x (defScope st) s.heap.objs.size f cdv)) → sp vs H Q E →
      ∃ t, PSs (cxOf CX0 P w K mg base N x (defScope st) f cdv A outer s H E).nox (defBody st) t ∧ t { nx := fun _ H' => Q .non H', rt := Q } (start N vs) H) : Ok P w K mg base (k + 1) x ps sp := by
  obtain ⟨f, fd, F, g⟩ := a
  refine ⟨f, fd, F.ok S len fun cdv A outer s H vs Q E hr h => ?_, g, F.kp, F.bindsN hb⟩
  obtain ⟨t, h1, h2⟩ := hbody f cdv A outer s H vs Q E hr h
  exact ⟨t, h1.nox, h2⟩
end
def tCl (sp : Sp) (t : TA) : TE := fun σ H Q => t σ H fun vs H1 => sp vs H1 Q E0
theorem sp_nil {sp : Sp} {Q : VK} {E : XK} : (fun vs H1 => sp (vs ++ []) H1 Q E) = fun vs H1 => sp vs H1 Q E := by
  funext vs H1
  rw [List.append_nil]
section
variable {X : Cx} {k : Nat} {ps : List Str} {sp : Sp} {x : Str} {p pos : Pos} {e : Expr} {es : List Expr} {t : TA}
theorem pcall (G : Ok X.prog X.w X.K X.mg X.base k x ps sp) (hr : Room k X.A) (hg : Gl X x) (ha : PA X (e :: es) t) (hdb : (x == ("__debug__" : Str)) = false := by decide)
    (he : starEach (e :: es) X.env = (false, eval e X.env) :: starEach es X.env := by rfl) (hpl : (backTo pos (starEach es X.env)).any (·.1) = false := by rfl) : PE X (.Call (.Name x p) (e :: es) [] pos) (tCl sp t) := by
  obtain ⟨f, fd, F, hm, hk, hb⟩ := G
  refine ⟨fun pins s σ H Q I h => (pe_call (p := p) F hr hg hm hk hb .nil pass0 ha hdb he hpl).run pins s σ H Q I ?_⟩
  show t σ H fun vs H1 => sp (vs ++ []) H1 Q E0
  rw [sp_nil]
  exact h
theorem pcall0 (G : Ok X.prog X.w X.K X.mg X.base k x ps sp) (hr : Room k X.A) (hg : Gl X x) (hdb : (x == ("__debug__" : Str)) = false := by decide) : PE X (.Call (.Name x p) [] [] pos) (tCl sp tNil) := by
  obtain ⟨f, fd, F, hm, hk, hb⟩ := G
  exact ⟨fun pins s σ H Q I h => (pe_call0 (p := p) F hr hg hm hk hb .nil pass0 hdb).run pins s σ H Q I h⟩
/-- a number of the module -/
theorem pgi {n : Int} (h : Num X.mg x n) (hg : Gl X x) (hd : (x == ("__debug__" : Str)) = false := by decide) : PE X (.Name x pos) (tC (.int n)) := by
  obtain ⟨t, hm⟩ := h
  exact pe_glob hg hm ⟨t, rfl⟩ hd
/-- a tuple of the module -/
def tGT (K : PySem.W.Frag) (xs : List V) : TE := fun _ H Q => ∀ a, (∀ H', SqT K H' a xs) → Q (.ref a) H
theorem pgt {xs : List V} (h : Tup X.K X.mg x xs) (hg : Gl X x) (hd : (x == ("__debug__" : Str)) = false := by decide) : PE X (.Name x pos) (tGT X.K xs) := by
  obtain ⟨a, hm, ht⟩ := h
  exact ⟨fun pins s σ H Q I q => (pe_glob (v := V.ref a) hg hm rfl hd).run pins s σ H Q I (q a ht)⟩
/-- a def of the module as a value -/
def tGF (sp : Addr → Prop) : TE := fun _ H Q => ∀ a, sp a → Q (.ref a) H
theorem pgf (G : Ok X.prog X.w X.K X.mg X.base k x ps sp) (hg : Gl X x) (hd : (x == ("__debug__" : Str)) = false := by decide) : PE X (.Name x pos) (tGF fun a => X.mg x = some (.ref a)) := by
  obtain ⟨f, fd, F, hm, hk, hb⟩ := G
  exact ⟨fun pins s σ H Q I q => (pe_glob (v := V.ref f) hg hm rfl hd).run pins s σ H Q I (q f hm)⟩
end
/-! ### tuples under Same, pairs of lists -/
theorem same_sqT {K : PySem.W.Frag} {H H' : Hp} {a : Addr} {xs : List V} (e : Same H H') (h : SqT K H a xs) : SqT K H' a xs := by
  rcases h with (h | ⟨o, h⟩) | h
  · exact .inl (.inl (e _ _ h))
  · exact .inl (.inr ⟨o, e _ _ h⟩)
  · exact .inr h
theorem same_new {H : Hp} {p : Addr} {o : HO} (h : H p = none) : Same H (upd H p o) := fun b u e => by rw [upd_ne (ne_of_none e h)]; exact e
theorem paired_atL {α β : Type} {F : α → β → Prop} : ∀ {xs : List α} {ys : List β} {i : Nat} {x : α}, Paired F xs ys → xs[i]? = some x → ∃ y, ys[i]? = some y ∧ F x y
  | _, _, _, _, .nil, e => by simp at e
  | _, _, 0, _, .cons r _, e => by simp at e; subst e; exact ⟨_, rfl, r⟩
  | _, _, i + 1, x, .cons _ t, e => by
    obtain ⟨u, h1, h2⟩ := paired_atL (i := i) (x := x) t (by simpa using e)
    exact ⟨u, by simpa using h1, h2⟩
theorem paired_atR {α β : Type} {F : α → β → Prop} : ∀ {xs : List α} {ys : List β} {i : Nat} {y : β}, Paired F xs ys → ys[i]? = some y → ∃ x, xs[i]? = some x ∧ F x y
  | _, _, _, _, .nil, e => by simp at e
  | _, _, 0, _, .cons r _, e => by simp at e; subst e; exact ⟨_, rfl, r⟩
  | _, _, i + 1, x, .cons _ t, e => by
    obtain ⟨u, h1, h2⟩ := paired_atR (i := i) (y := x) t (by simpa using e)
    exact ⟨u, by simpa using h1, h2⟩

/-- what the walks ask of the top -/
structure TX (K : PySem.W.Frag) (mg : Str → Option Value) : Prop where
  d_byte_count : At K mg "byte_count" s_byte_count
  d_beat_count : At K mg "beat_count" s_beat_count
  d_is_table : At K mg "is_table" s_is_table
  d_row_of : At K mg "row_of" s_row_of
  d_next_rows : At K mg "next_rows" s_next_rows
  d_long_of : At K mg "long_of" s_long_of
  d_want_room : At K mg "want_room" s_want_room
  d_addresses : At K mg "addresses" s_addresses
  d_is_crossed : At K mg "is_crossed" s_is_crossed
  d_page_sign : At K mg "page_sign" s_page_sign
  d_page_signs : At K mg "page_signs" s_page_signs
  d_is_within : At K mg "is_within" s_is_within
  d_more_parts : At K mg "more_parts" s_more_parts
  d_less_parts : At K mg "less_parts" s_less_parts
  d_x_behind : At K mg "x_behind" s_x_behind
  d_x_where : At K mg "x_where" s_x_where
  d_x_gone : At K mg "x_gone" s_x_gone
  d_if_comes : At K mg "if_comes" s_if_comes
  d_comes_of : At K mg "comes_of" s_comes_of
  d_is_between : At K mg "is_between" s_is_between
  d_is_cell : At K mg "is_cell" s_is_cell
  d_are_rising : At K mg "are_rising" s_are_rising
  d_are_entries : At K mg "are_entries" s_are_entries
  d_are_cells : At K mg "are_cells" s_are_cells
  d_is_within_one : At K mg "is_within_one" s_is_within_one
  d_cell_keeps : At K mg "cell_keeps" s_cell_keeps
  d_right_times : At K mg "right_times" s_right_times
  d_most_towards : At K mg "most_towards" s_most_towards
  d_is_line_begin : At K mg "is_line_begin" s_is_line_begin
  d_is_flow : At K mg "is_flow" s_is_flow
  d_right_late : At K mg "right_late" s_right_late
  d_keys_behind : At K mg "keys_behind" s_keys_behind
  d_least_keys : At K mg "least_keys" s_least_keys
  d_rows_of_way : At K mg "rows_of_way" s_rows_of_way
  d_times_of : At K mg "times_of" s_times_of
  d_law_mixed : At K mg "_law_mixed" s_law_mixed
  d_law_deck : At K mg "_law_deck" s_law_deck
  d_law_next : At K mg "_law_next" s_law_next
  d_law_deeds : At K mg "_law_deeds" s_law_deeds
  d_law_most : At K mg "_law_most" s_law_most
  d_law_name : At K mg "_law_name" s_law_name
  d_law_value : At K mg "_law_value" s_law_value
  d_law_beats : At K mg "_law_beats" s_law_beats
  d_law_free : At K mg "_law_free" s_law_free
  d_law_tamed : At K mg "_law_tamed" s_law_tamed
  d_law_next_rows : At K mg "_law_next_rows" s_law_next_rows
  d_law_may_be_late : At K mg "_law_may_be_late" s_law_may_be_late
  d_law_with_waits : At K mg "_law_with_waits" s_law_with_waits
  d_law : At K mg "law" s_law
  c_PLAIN_DEEDS : Tup K mg "PLAIN_DEEDS" (PLAIN.map V.str)
  c_IF_DEEDS_deeds : Tup K mg "IF_DEEDS_deeds" (IFS.map V.str)
  c_THREE_BEATS : Tup K mg "THREE_BEATS" (THREE.map V.str)
  c_FOUR_BEATS : Tup K mg "FOUR_BEATS" (FOUR.map V.str)
  i_ROOM : Num mg "ROOM" 256
  i_PAGE : Num mg "PAGE" 32
  c_IF_DEEDS_pages : Tup K mg "IF_DEEDS_pages" (IFS.map V.str)
  i_MOST_CELLS : Num mg "MOST_CELLS" 3000
  i_MOST_BEAT : Num mg "MOST_BEAT" 30
  i_MOST_BYTE : Num mg "MOST_BYTE" 255
  i_MOST_WAY : Num mg "MOST_WAY" 40
  c_FIRST_CELL : Tup K mg "FIRST_CELL" ([.int 0, .int 0, .int 1, .int 0, .int 0])
  c_SAME_FLAG : Tup K mg "SAME_FLAG" (SAME.map V.str)
  c_FIRST_KEY : Tup K mg "FIRST_KEY" ([.int 0, .int 0, .int 0, .int 1])
  n_len : mg "len" = none
  n_sum : mg "sum" = none
  n_min : mg "min" = none
  n_max : mg "max" = none
  n_int : mg "int" = none
  n_range : mg "range" = none
  n_tuple : mg "tuple" = none
  n_list : mg "list" = none
  n_sorted : mg "sorted" = none
  n_set : mg "set" = none
  n_isinstance : mg "isinstance" = none
  n_zip : mg "zip" = none
  n_enumerate : mg "enumerate" = none
  n_reversed : mg "reversed" = none
  n_bool : mg "bool" = none
/-! ### how the data lie in the heap -/
def rowV (r : Rw) : List V := [.str r.m, .str r.d, r.v]
def PgAt (K : PySem.W.Frag) (H : Hp) (a : Addr) (P : Pg) : Prop := ∃ rs : List Addr, SqT K H a (rs.map V.ref) ∧ Paired (fun b r => SqT K H b (rowV r)) rs P
def SgV (K : PySem.W.Frag) (H : Hp) : V → Sg → Prop
  | .non, .non => True
  | .int n, .one m => n = m
  | .ref b, .all l => SqT K H b (l.map V.int)
  | _, _ => False
def SgsAt (K : PySem.W.Frag) (H : Hp) (a : Addr) (S : List Sg) : Prop := ∃ vs, SqT K H a vs ∧ Paired (SgV K H) vs S
section
variable {K : PySem.W.Frag} {H H' : Hp} {a : Addr} {Pr : Pg} {S : List Sg}
theorem PgAt.same (h : PgAt K H a Pr) (e : Same H H') : PgAt K H' a Pr := by
  obtain ⟨rs, h1, h2⟩ := h
  exact ⟨rs, same_sqT e h1, Paired.mapP h2 fun b r z => same_sqT e z⟩
theorem PgAt.at (h : PgAt K H a Pr) {i : Nat} {r : Rw} (hi : Pr[i]? = some r) : ∃ (rs : List Addr) (b : Addr), SqT K H a (rs.map V.ref) ∧ (rs.map V.ref)[i]? = some (.ref b) ∧ SqT K H b (rowV r) := by
  obtain ⟨rs, h1, h2⟩ := h
  obtain ⟨b, h3, h4⟩ := paired_atR h2 hi
  exact ⟨rs, b, h1, by rw [List.getElem?_map, h3]; rfl, h4⟩
theorem PgAt.len (h : PgAt K H a Pr) : ∃ rs : List Addr, SqT K H a (rs.map V.ref) ∧ rs.length = Pr.length := by
  obtain ⟨rs, h1, h2⟩ := h
  exact ⟨rs, h1, Paired.length h2⟩
theorem SgV.same {v : V} {s : Sg} (h : SgV K H v s) (e : Same H H') : SgV K H' v s := by
  cases v <;> cases s <;> first | exact same_sqT e h | exact h
theorem SgsAt.same (h : SgsAt K H a S) (e : Same H H') : SgsAt K H' a S := by
  obtain ⟨rs, h1, h2⟩ := h
  exact ⟨rs, same_sqT e h1, Paired.mapP h2 fun b r z => z.same e⟩
end
theorem nat_at {α : Type} {xs : List α} {i : Nat} {x : α} (h : xs[i]? = some x) : atI xs ((i : Nat) : Int) = some x := atI_nat h
/-- an answer that hangs on the first of two tests -/
theorem ite_b {b : Bool} {A B : Prop} (h1 : b = true → A) (h2 : b = false → B) : if b = true then A else B := by
  cases b with
  | true => rw [if_pos rfl]; exact h1 rfl
  | false => rw [if_neg Bool.false_ne_true]; exact h2 rfl
/-! ### comprehensions whose elements are told one by one -/
structure SameT (H H' : Hp) : Prop where
  tup : ∀ b xs, H b = some (.tup xs) → H' b = some (.tup xs)
  frz : ∀ b o u, H b = some (.frz o u) → H' b = some (.frz o u)
theorem sameT_of {H H' : Hp} (e : Same H H') : SameT H H' := ⟨fun b xs h => e b _ h, fun b o u h => e b _ h⟩
theorem SameT.trans {H H1 H2 : Hp} (a : SameT H H1) (b : SameT H1 H2) : SameT H H2 := ⟨fun c o e => b.tup c o (a.tup c o e), fun c o u e => b.frz c o u (a.frz c o u e)⟩
theorem sameT_lst {H : Hp} {D : Addr} {xs ys : List V} (h : H D = some (.lst xs)) : SameT H (upd H D (.lst ys)) :=
  ⟨fun b zs e => by rw [upd_ne (ne_of e h (fun z => nomatch z))]; exact e, fun b o u e => by rw [upd_ne (ne_of e h (fun z => nomatch z))]; exact e⟩
theorem sameT_ext {H : Hp} {D : Addr} {φ ψ : Heap → Prop} (h : H D = some (.ext φ)) : SameT H (upd H D (.ext ψ)) :=
  ⟨fun b zs e => by rw [upd_ne (ne_of e h (fun z => nomatch z))]; exact e, fun b o u e => by rw [upd_ne (ne_of e h (fun z => nomatch z))]; exact e⟩
theorem sameT_ins {H : Hp} {D C dx C' dx' : Addr} {fs fs' : List (Str × V)} (h : H D = some (.ins C dx fs)) : SameT H (upd H D (.ins C' dx' fs')) :=
  ⟨fun b zs e => by rw [upd_ne (ne_of e h (fun z => nomatch z))]; exact e, fun b o u e => by rw [upd_ne (ne_of e h (fun z => nomatch z))]; exact e⟩
theorem sameT_sqT {K : PySem.W.Frag} {H H' : Hp} {a : Addr} {xs : List V} (e : SameT H H') (h : SqT K H a xs) : SqT K H' a xs := by
  rcases h with (h | ⟨o, h⟩) | h
  · exact .inl (.inl (e.tup _ _ h))
  · exact .inl (.inr ⟨o, e.frz _ _ _ h⟩)
  · exact .inr h
theorem same_upd {H H' : Hp} {D : Addr} {o : HO} (hD : H D = none) (e : Same H H') : Same H (upd H' D o) := fun b u h => by rw [upd_ne (ne_of_none h hD)]; exact e b u h
section
variable {J : It} {n : Nat} {G : Hp → Prop} {Y : Nat → Hp → V → Hp → Prop}
/-- R i y H: what is told of the i-th element -/
theorem lc_rel (w : Walk J n G Y) {g : TG} {te : TE} {vs : List Nat} {σ : L2.St} {H1 : Hp} {D : Addr} {Qd : Hp → Prop} (R : Nat → V → Hp → Prop) (mono : ∀ i y H H', R i y H → SameT H H' → R i y H') (hn : n ≤ 1000) (hD : H1 D = none) (hG : ∀ H, Same H1 H → G H)
    (hY : ∀ i x H H', Y i H x H' → Same H H')
    (hs : ∀ i x H H' (C : V → Hp → Prop) (C0 : Hp → Prop), i < n → Same H1 H → Y i H x H' → (∀ H2 y, Same H' H2 → R i y H2 → C y H2) → g x (wipe σ vs) H' fun σ2 H2 => wipe σ2 vs = wipe σ vs ∧ tYes σ2 H2 fun b H3 => if b = true then te σ2 H3 C else C0 H3)
    (hd : ∀ H' ys, Same H1 H' → H' D = some (.lst ys) → ys.length = n → (∀ i y, ys[i]? = some y → R i y H') → Qd H') :
    ∃ W : Nat → Nat → Hp → Prop, (∃ m, W 0 m (upd H1 D (.lst []))) ∧ ∀ i m H, W i m H →
      (J.stop i H ∧ Qd H) ∨ (J.go i H ∧ ∃ Nx : Hp → Prop, (∀ H', Nx H' → ∃ m', m' < m ∧ W (i + 1) m' H') ∧ ∀ x H', J.yld i H x H' → g x (wipe σ vs) H' fun σ2 H2 => wipe σ2 vs = wipe σ vs ∧ tYes σ2 H2 fun b H3 =>
        if b = true then te σ2 H3 fun y H4 => ∃ acc, H4 D = some (.lst acc) ∧ acc.length < sizeLine ∧ Nx (upd H4 D (.lst (acc ++ [y]))) else Nx H3) := by
  refine lc_it w (fun i H => Same H1 H ∧ ∃ ys, H D = some (.lst ys) ∧ ys.length = i ∧ ∀ j y, ys[j]? = some y → R j y H) ⟨same_new hD, [], upd_same, rfl, fun j y e => by simp at e⟩ (fun i H _ p => hG H p.1) (fun i x H H' hi p y => ?_) fun H p => ?_
  · obtain ⟨sm, ys, h1, h2, h3⟩ := p
    refine hs i x H H' _ _ hi sm y fun H2 v s2 r => ?_
    have s3 : Same H H2 := (hY _ _ _ _ y).trans s2
    have hD2 : H2 D = some (.lst ys) := s3 D _ h1
    refine ⟨ys, hD2, small1000 (by omega), same_upd hD (sm.trans s3), ys ++ [v], upd_same, by rw [List.length_append, h2]; rfl, fun j z e => ?_⟩
    by_cases hj : j < ys.length
    · rw [List.getElem?_append_left hj] at e
      exact mono _ _ _ _ (h3 j z e) ((sameT_of s3).trans (sameT_lst hD2))
    · have hj2 : j = ys.length := by
        have := (List.getElem?_eq_some_iff.mp e).1
        rw [List.length_append, List.length_singleton] at this
        omega
      subst hj2
      rw [List.getElem?_append_right (Nat.le_refl _), Nat.sub_self] at e
      cases e
      rw [h2]
      exact mono _ _ _ _ r (sameT_lst hD2)
  · obtain ⟨sm, ys, h1, h2, h3⟩ := p
    exact hd H ys sm h1 h2 h3
end
theorem hY_at {xs : List V} : ∀ i x H H', YAt xs i H x H' → Same H H' := fun _ _ _ _ h b o e => by rw [h.1]; exact e
theorem hY_fn {f : Nat → V} : ∀ i x H H', YFn f i H x H' → Same H H' := fun _ _ _ _ h b o e => by rw [h.1]; exact e
theorem hY_pair {xs ys : Nat → Option V} : ∀ i x H H', YPair xs ys i H x H' → Same H H' := fun i v H H' h b o e => by
  obtain ⟨T, x, y, _, h2, h3, _⟩ := h
  rw [h3]
  exact same_new h2 b o e
/-- elements that are told as f i -/
theorem list_of_rel {n : Nat} {ys : List V} {f : Nat → V} (h1 : ys.length = n) (h2 : ∀ (i : Nat) (y : V), ys[i]? = some y → y = f i) : ys = (List.range n).map f := by
  apply List.ext_getElem?
  intro i
  rw [List.getElem?_map]
  by_cases hi : i < n
  · have e : ys[i]? = some ys[i] := List.getElem?_eq_getElem (by omega)
    rw [e, List.getElem?_range hi, h2 i _ e]
    rfl
  · rw [List.getElem?_eq_none (by omega), List.getElem?_eq_none (by rw [List.length_range]; omega)]
    rfl
theorem map_range {α β : Type} (f : α → β) : ∀ (l : List α) (g : Nat → β), (∀ i x, l[i]? = some x → g i = f x) → (List.range l.length).map g = l.map f := fun l g h => by
  apply List.ext_getElem?
  intro i
  rw [List.getElem?_map, List.getElem?_map]
  by_cases hi : i < l.length
  · rw [List.getElem?_range hi, List.getElem?_eq_getElem hi]
    exact congrArg some (h i _ (List.getElem?_eq_getElem hi))
  · rw [List.getElem?_eq_none (show (List.range l.length).length ≤ i by rw [List.length_range]; omega), List.getElem?_eq_none (show l.length ≤ i by omega)]
    rfl
theorem map_of_rel {α : Type} {l : List α} {ys : List V} {f : α → V} (h1 : ys.length = l.length) (h2 : ∀ (i : Nat) (y : V), ys[i]? = some y → ∀ x : α, l[i]? = some x → y = f x) : ys = l.map f := by
  apply List.ext_getElem?
  intro i
  rw [List.getElem?_map]
  by_cases hi : i < l.length
  · have e : ys[i]? = some ys[i] := List.getElem?_eq_getElem (by omega)
    rw [e, List.getElem?_eq_getElem hi, h2 i _ e _ (List.getElem?_eq_getElem hi)]
    rfl
  · rw [List.getElem?_eq_none (by omega), List.getElem?_eq_none (by omega)]
    rfl
theorem yesT {σ : L2.St} {H : Hp} {A B : Hp → Prop} (h : A H) : tYes σ H fun b H3 => if b = true then A H3 else B H3 := by
  show if true = true then A H else B H
  rw [if_pos rfl]
  exact h
theorem inS_f {d : Str} {l : List Str} (e : inV (.str d) (l.map V.str) = false) : ¬ inS d l = true := by rw [show inS d l = false from e]; exact Bool.false_ne_true
theorem eqS_f {a b : Str} (e : decide (V.str a = V.str b) = false) : ¬ eqS a b = true := by rw [show eqS a b = false from e]; exact Bool.false_ne_true
theorem eqS_iff {a b : Str} : eqS a b = true ↔ a = b := by
  unfold eqS
  rw [decide_eq_true_iff]
  exact ⟨fun h => V.str.inj h, fun h => by rw [h]⟩
theorem take_snoc {α : Type} {l : List α} {i : Nat} {x : α} (h : l[i]? = some x) : l.take (i + 1) = l.take i ++ [x] := by
  rw [List.take_add_one, h]
  rfl
theorem ix_at {P : Pg} {z : Str} (h : ixOf P z < P.length) : (P.map fun r => V.str r.m)[ixOf P z]? = some (.str z) := by
  have h2 : ixOf P z < (P.map (·.m)).length := by rw [List.length_map]; exact h
  have e : (P.map (·.m))[ixOf P z]? = some z := by
    rw [List.getElem?_eq_getElem h2]
    exact congrArg some (List.getElem_idxOf h2)
  have e2 : (P.map fun r => V.str r.m) = (P.map (·.m)).map V.str := by rw [List.map_map]; rfl
  rw [e2, List.getElem?_map, e]
  rfl
theorem ix_first {P : Pg} {z : Str} {m : Nat} {z' : V} (h : m < ixOf P z) (e : (P.map fun r => V.str r.m)[m]? = some z') : eqV z' (.str z) = false := by
  have e2 : (P.map fun r => V.str r.m) = (P.map (·.m)).map V.str := by rw [List.map_map]; rfl
  rw [e2, List.getElem?_map] at e
  obtain ⟨y, hy, rfl⟩ := Option.map_eq_some_iff.mp e
  show (y == z) = false
  refine beq_eq_false_iff_ne.mpr fun ez => ?_
  subst ez
  have h3 := (List.getElem?_eq_some_iff.mp hy)
  obtain ⟨hm, hv⟩ := h3
  have hf : m < (P.map (·.m)).findIdx (· == y) := h
  have := List.not_of_lt_findIdx hf
  simp [hv] at this
section
variable {P : Program} {w : World} {K : PySem.W.Frag} {mg : Str → Option Value} {base : Heap}
def sp_byte_count : Sp := fun vs H Q _ => ∃ d, vs = [.str d] ∧ Q (.int (byteC d)) H
abbrev N_byte_count : List Str := ["deed"]
theorem sc_byte_count : FnScope N_byte_count ["deed"] (defScope s_byte_count) := ⟨rfl, rfl, rfl, by decide +kernel, rfl, by decide +kernel, by decide +kernel⟩
theorem ok_byte_count (T : TX K mg) : Ok P w K mg base 1 "byte_count" ["deed"] sp_byte_count := by
  refine T.d_byte_count.ok sc_byte_count (fun _ _ _ _ _ _ us hl => match us, hl with | [_], _ => rfl) (fun vs H Q E h => ?_) (fun f cdv A outer s H vs Q E hr h => ?_)
  · obtain ⟨_, rfl, _⟩ := h; rfl
  · obtain ⟨d, rfl, k⟩ := h
    refine ⟨_, (pss_cons (ps_if (PW.pt (pw_or (pt_cmpR op_in_seq (pv 0) (pgt T.c_PLAIN_DEEDS rfl) rfl) (pw_or1 (pt_cmpR op_eq (pv 0) pe_str (nomark _))))) (pss_one (ps_ret pe_int)) pss_nil)
        (pss_one (ps_ret pe_int))), ?_⟩
    unfold byteC at k
    refine ⟨_, rfl, fun a ha => ⟨a, _, rfl, .inr (ha _), rfl, rfl, _, rfl, ite_b (fun e => ?_) fun e => ?_⟩⟩
    · rw [if_pos (show inS d PLAIN = true from e)] at k
      exact iteT k
    · rw [if_neg (inS_f e)] at k
      refine ⟨_, rfl, rfl, _, rfl, ite_b (fun e2 => ?_) fun e2 => ?_⟩
      · rw [if_pos (show eqS d "data" = true from e2)] at k
        exact k
      · rw [if_neg (eqS_f e2)] at k
        exact k
def sp_beat_count : Sp := fun vs H Q _ => ∃ d, vs = [.str d] ∧ Q (.int (beatC d)) H
abbrev N_beat_count : List Str := ["deed"]
theorem sc_beat_count : FnScope N_beat_count ["deed"] (defScope s_beat_count) := ⟨rfl, rfl, rfl, by decide +kernel, rfl, by decide +kernel, by decide +kernel⟩
theorem ok_beat_count (T : TX K mg) : Ok P w K mg base 1 "beat_count" ["deed"] sp_beat_count := by
  refine T.d_beat_count.ok sc_beat_count (fun _ _ _ _ _ _ us hl => match us, hl with | [_], _ => rfl) (fun vs H Q E h => ?_) (fun f cdv A outer s H vs Q E hr h => ?_)
  · obtain ⟨_, rfl, _⟩ := h; rfl
  · obtain ⟨d, rfl, k⟩ := h
    refine ⟨_, (pss_cons (ps_if (pt_cmpR op_eq (pv 0) pe_str (nomark _)) (pss_one (ps_ret pe_int)) pss_nil)
        (pss_cons (ps_if (pt_cmpR op_in_seq (pv 0) (pgt T.c_FOUR_BEATS rfl) rfl) (pss_one (ps_ret pe_int)) pss_nil)
        (pss_cons (ps_if (pt_cmpR op_in_seq (pv 0) (pgt T.c_THREE_BEATS rfl) rfl) (pss_one (ps_ret pe_int)) pss_nil)
        (pss_one (ps_ret pe_int))))), ?_⟩
    unfold beatC at k
    refine ⟨_, rfl, rfl, _, rfl, ite_b (fun e => ?_) fun e => ?_⟩
    · rw [if_pos (show eqS d "data" = true from e)] at k
      exact k
    · rw [if_neg (eqS_f e)] at k
      refine ⟨_, rfl, fun a ha => ⟨a, _, rfl, .inr (ha _), rfl, rfl, _, rfl, ite_b (fun e2 => ?_) fun e2 => ?_⟩⟩
      · rw [if_pos (show inS d FOUR = true from e2)] at k
        exact k
      · rw [if_neg (inS_f e2)] at k
        refine ⟨_, rfl, fun a ha => ⟨a, _, rfl, .inr (ha _), rfl, rfl, _, rfl, ite_b (fun e3 => ?_) fun e3 => ?_⟩⟩
        · rw [if_pos (show inS d THREE = true from e3)] at k
          exact k
        · rw [if_neg (inS_f e3)] at k
          exact k
def sp_is_table (K : PySem.W.Frag) : Sp := fun vs H Q _ => ∃ b r, vs = [.ref b] ∧ SqT K H b (rowV r) ∧ Q (.bl (eqS r.d "data")) H
abbrev N_is_table : List Str := ["row"]
theorem sc_is_table : FnScope N_is_table ["row"] (defScope s_is_table) := ⟨rfl, rfl, rfl, by decide +kernel, rfl, by decide +kernel, by decide +kernel⟩
theorem ok_is_table (T : TX K mg) : Ok P w K mg base 1 "is_table" ["row"] (sp_is_table K) := by
  refine T.d_is_table.ok sc_is_table (fun _ _ _ _ _ _ us hl => match us, hl with | [_], _ => rfl) (fun vs H Q E h => ?_) (fun f cdv A outer s H vs Q E hr h => ?_)
  · obtain ⟨_, _, rfl, _⟩ := h; rfl
  · obtain ⟨b, r, rfl, hb, k⟩ := h
    refine ⟨_, (pss_one (ps_ret (pe_cmpR op_eq (pe_ix ix_tup (pv 0) pe_int (fun _ _ => rfl)) pe_str (nomark _)))), ?_⟩
    exact ⟨_, rfl, b, _, 1, _, rfl, rfl, hb, nat_at (i := 1) rfl, rfl, k⟩
def sp_row_of (K : PySem.W.Frag) : Sp := fun vs H Q _ => ∃ a Pr z, vs = [.ref a, .str z] ∧ PgAt K H a Pr ∧ ixOf Pr z < Pr.length ∧ Pr.length ≤ 1000 ∧ ∀ H', Same H H' → Q (.int (ixOf Pr z : Nat)) H'
abbrev N_row_of : List Str := ["program", "mark", "own", "deed", "value"]
theorem sc_row_of : FnScope N_row_of ["program", "mark"] (defScope s_row_of) := ⟨rfl, rfl, rfl, by decide +kernel, rfl, by decide +kernel, by decide +kernel⟩
theorem ok_row_of (T : TX K mg) : Ok P w K mg base 1 "row_of" ["program", "mark"] (sp_row_of K) := by
  refine T.d_row_of.ok sc_row_of (fun _ _ _ _ _ _ us hl => match us, hl with | [_, _], _ => rfl) (fun vs H Q E h => ?_) (fun f cdv A outer s H vs Q E hr h => ?_)
  · obtain ⟨_, _, _, rfl, _⟩ := h; rfl
  · obtain ⟨a, Pr, z, rfl, hP, hi, hl, k⟩ := h
    obtain ⟨rs, hS, hrs⟩ := hP
    have hlen := Paired.length hrs
    refine ⟨_, (pss_one (ps_ret (pe_bm PySem.F.plainAttrs_list PySem.F.slot_list_index PySem.F.type_list_index mt_index (pe_lc (own := [("own", 2), ("deed", 3), ("value", 4)]) (g := gTup K 3 (gCons (gName 2) (gCons (gName 3) (gCons (gName 4) gNil)))) (tt := tYes) rfl sc_row_of.nd (pi_tup (pv 0)) (blkOk_by (N := N_row_of) (sc := defScope s_row_of) (by decide +kernel)) (fun _ _ _ _ _ => (pg_tup rfl (pgs_cons (pg_name (i := 2) sc_row_of.nd rfl (Or.inl rfl)) (pgs_cons (pg_name (i := 3) sc_row_of.nd rfl (Or.inl rfl)) (pgs_cons (pg_name (i := 4) sc_row_of.nd rfl (Or.inl rfl)) pgs_nil))))) (fun _ _ _ _ _ => pts_nil) (fun _ _ _ _ _ => (pv 2))) (pa_cons (pv 1) pa_nil)))), ?_⟩
    refine ⟨_, rfl, a, rfl, ⟨_, hS⟩, fun D hD => lc_rel (walk_tup (K := K) (a := a) (xs := rs.map V.ref)) (fun i y _ => ∀ r, Pr[i]? = some r → y = .str r.m) (fun _ _ _ _ h _ => h) (by rw [List.length_map]; omega) hD (fun H' e => same_sqT e hS) hY_at ?_ ?_⟩
    · rintro i x H1 H2 C C0 hi' sm ⟨rfl, hx⟩ hC
      rw [List.getElem?_map] at hx
      obtain ⟨b, hb, rfl⟩ := Option.map_eq_some_iff.mp hx
      obtain ⟨r, hr1, hr2⟩ := paired_atL hrs hb
      exact ⟨b, rowV r, rfl, same_sqT sm hr2, rfl, _, _, rfl, _, _, rfl, _, _, rfl, rfl, rfl, yesT ⟨_, rfl, hC _ _ (Same.refl _) fun r' e => by rw [hr1] at e; cases e; rfl⟩⟩
    · intro H' ys sm hD' hn hy
      have ey : ys = Pr.map fun r => V.str r.m := map_of_rel (by rw [hn, List.length_map]; exact hlen) fun i y e r hr' => hy i y e r hr'
      subst ey
      exact ⟨.inl ⟨rfl, _, SqL.of hD'⟩, _, rfl, D, _, _, ixOf Pr z, _, rfl, rfl, SqL.of hD', rfl, (by rw [show (Pr.map fun r => V.str r.m) = (Pr.map (·.m)).map V.str by rw [List.map_map]; rfl]; exact flat_strs _), ix_at hi, beq_self_eq_true z, fun m z' hm e => ix_first hm e, k H' sm⟩
def sp_long_of (K : PySem.W.Frag) : Sp := fun vs H Q _ => ∃ a Pr, vs = [.ref a] ∧ PgAt K H a Pr ∧ Pr.length ≤ 1000 ∧ ∀ H', Same H H' → Q (.int (Pr.map fun r => byteC r.d).sum) H'
abbrev N_long_of : List Str := ["program", "row"]
theorem sc_long_of : FnScope N_long_of ["program"] (defScope s_long_of) := ⟨rfl, rfl, rfl, by decide +kernel, rfl, by decide +kernel, by decide +kernel⟩
theorem ok_long_of (T : TX K mg) : Ok P w K mg base 2 "long_of" ["program"] (sp_long_of K) := by
  refine T.d_long_of.ok sc_long_of (fun _ _ _ _ _ _ us hl => match us, hl with | [_], _ => rfl) (fun vs H Q E h => ?_) (fun f cdv A outer s H vs Q E hr h => ?_)
  · obtain ⟨_, _, rfl, _⟩ := h; rfl
  · obtain ⟨a, Pr, rfl, hP, hl, k⟩ := h
    obtain ⟨rs, hS, hrs⟩ := hP
    have hlen := Paired.length hrs
    refine ⟨_, (pss_one (ps_ret (pe_callB (cr_sum rfl) rfl T.n_sum (by decide +kernel) (pa_cons (pe_lc (own := [("row", 1)]) (g := gName 1) (tt := tYes) (te := tCl sp_byte_count (tCons (tOp (rIxT K) (tVar 1) (tC (.int 1))) tNil)) rfl sc_long_of.nd (pi_tup (pv 0)) (blkOk_by (N := N_long_of) (sc := defScope s_long_of) (by decide +kernel)) (fun _ _ _ _ _ => (pg_name (i := 1) sc_long_of.nd rfl (Or.inl rfl))) (fun _ _ _ _ _ => pts_nil) (fun _ _ _ _ _ => (pcall (ok_byte_count T) (hr.mono (by decide)) rfl (pa_cons (pe_ix ix_tup (pv 1) pe_int (fun _ _ => rfl)) pa_nil)))) pa_nil)))), ?_⟩
    refine ⟨_, rfl, a, rfl, ⟨_, hS⟩, fun D hD => lc_rel (walk_tup (K := K) (a := a) (xs := rs.map V.ref)) (fun i y _ => ∀ r, Pr[i]? = some r → y = .int (byteC r.d)) (fun _ _ _ _ h _ => h) (by rw [List.length_map]; omega) hD (fun H' e => same_sqT e hS) hY_at ?_ ?_⟩
    · rintro i x H1 H2 C C0 hi' sm ⟨rfl, hx⟩ hC
      rw [List.getElem?_map] at hx
      obtain ⟨b, hb, rfl⟩ := Option.map_eq_some_iff.mp hx
      obtain ⟨r, hr1, hr2⟩ := paired_atL hrs hb
      exact ⟨rfl, yesT ⟨_, rfl, b, _, 1, _, rfl, rfl, same_sqT sm hr2, nat_at (i := 1) rfl, r.d, rfl, hC _ _ (Same.refl _) fun r' e => by rw [hr1] at e; cases e; rfl⟩⟩
    · intro H' ys sm hD' hn hy
      have ey : ys = (Pr.map fun r => byteC r.d).map V.int := by
        rw [List.map_map]
        exact map_of_rel (by rw [hn, List.length_map]; exact hlen) fun i y e r hr' => hy i y e r hr'
      subst ey
      exact ⟨D, _, rfl, SqL.of hD', k H' sm⟩
def sp_want_room (K : PySem.W.Frag) : Sp := fun vs H Q _ => ∃ a Pr n, vs = [.ref a, .int n] ∧ PgAt K H a Pr ∧ Pr.length ≤ 1000 ∧ n + (Pr.map fun r => byteC r.d).sum ≤ 256 ∧ ∀ H', Same H H' → Q .non H'
abbrev N_want_room : List Str := ["program", "base"]
theorem sc_want_room : FnScope N_want_room ["program", "base"] (defScope s_want_room) := ⟨rfl, rfl, rfl, by decide +kernel, rfl, by decide +kernel, by decide +kernel⟩
theorem ok_want_room (T : TX K mg) : Ok P w K mg base 3 "want_room" ["program", "base"] (sp_want_room K) := by
  refine T.d_want_room.ok sc_want_room (fun _ _ _ _ _ _ us hl => match us, hl with | [_, _], _ => rfl) (fun vs H Q E h => ?_) (fun f cdv A outer s H vs Q E hr h => ?_)
  · obtain ⟨_, _, _, rfl, _⟩ := h; rfl
  · obtain ⟨a, Pr, n, rfl, hP, hl, hn, k⟩ := h
    refine ⟨_, (pss_one (ps_if (pt_cmpR op_gt (pe_op op_add (pv 1) (pcall (ok_long_of T) (hr.mono (by decide)) rfl (pa_cons (pv 0) pa_nil))) (pgi T.i_ROOM rfl) (nomark _)) (pss_one ps_never) pss_nil)), ?_⟩
    refine ⟨_, rfl, _, rfl, a, Pr, rfl, hP, hl, fun H' sm => ⟨_, _, rfl, rfl, _, _, rfl, rfl, _, rfl, ?_⟩⟩
    rw [decide_eq_false (show ¬ (256 : Int) < n + (Pr.map fun r => byteC r.d).sum by omega)]
    exact iteF (k H' sm)
theorem addrs_len : ∀ (P : Pg) (b : Int), (addrs P b).length = P.length
  | [], _ => rfl
  | r :: P, b => congrArg Nat.succ (addrs_len P _)
theorem addrs_snoc : ∀ (P : Pg) (b : Int) (r : Rw), addrs (P ++ [r]) b = addrs P b ++ [b + (P.map fun r => byteC r.d).sum]
  | [], b, r => by show [b] = [b + 0]; rw [Int.add_zero]
  | q :: P, b, r => by
    show b :: addrs (P ++ [r]) (b + byteC q.d) = b :: (addrs P (b + byteC q.d) ++ [b + (byteC q.d + (P.map fun r => byteC r.d).sum)])
    rw [addrs_snoc P, Int.add_assoc]
theorem sum_snoc (l : List Int) (x : Int) : (l ++ [x]).sum = l.sum + x := by rw [List.sum_append]; simp
def sp_addresses (K : PySem.W.Frag) : Sp := fun vs H Q _ => ∃ a Pr n, vs = [.ref a, .int n] ∧ PgAt K H a Pr ∧ Pr.length ≤ 1000 ∧ n + (Pr.map fun r => byteC r.d).sum ≤ 256 ∧ ∀ H' p, Same H H' → H' p = some (.lst ((addrs Pr n).map V.int)) → Q (.ref p) H'
abbrev N_addresses : List Str := ["program", "base", "found", "row"]
theorem sc_addresses : FnScope N_addresses ["program", "base"] (defScope s_addresses) := ⟨rfl, rfl, rfl, by decide +kernel, rfl, by decide +kernel, by decide +kernel⟩
theorem ok_addresses (T : TX K mg) : Ok P w K mg base 4 "addresses" ["program", "base"] (sp_addresses K) := by
  refine T.d_addresses.ok sc_addresses (fun _ _ _ _ _ _ us hl => match us, hl with | [_, _], _ => rfl) (fun vs H Q E h => ?_) (fun f cdv A outer s H vs Q E hr h => ?_)
  · obtain ⟨_, _, _, rfl, _⟩ := h; rfl
  · obtain ⟨a, Pr, n, rfl, hP, hl, hn, k⟩ := h
    obtain ⟨rs, hS, hrs⟩ := id hP
    have hlen := Paired.length hrs
    refine ⟨_, (pss_cons (ps_expr (pcall (ok_want_room T) (hr.mono (by decide)) rfl (pa_cons (pv 0) (pa_cons (pv 1) pa_nil))))
        (pss_cons (ps_set (i := 2) sc_addresses.nd rfl (Or.inl rfl) (pe_lst pa_nil))
        (pss_cons (ps_for PassesOwn.never rfl (pi_tup (pv 0)) (pg_name (i := 3) sc_addresses.nd rfl (Or.inl rfl)) (pss_cons (ps_expr (pe_bm PySem.F.plainAttrs_list PySem.F.slot_list_append PySem.F.type_list_append mt_append (pv 2) (pa_cons (pv 1) pa_nil)))
          (pss_one (ps_aug (i := 1) sc_addresses.nd rfl (.inl rfl) (pcall (ok_byte_count T) (hr.mono (by decide)) rfl (pa_cons (pe_ix ix_tup (pv 3) pe_int (fun _ _ => rfl)) pa_nil)) ip_add))))
        (pss_one (ps_ret (pv 2)))))), ?_⟩
    refine ⟨_, rfl, _, rfl, a, Pr, n, rfl, hP, hl, hn, fun H1 s1 => ⟨(Nat.zero_le _), fun p hp => ?_⟩⟩
    have hp0 : H p = none := s1.free hp
    refine ⟨_, rfl, a, rfl, ⟨_, same_sqT (same_new hp) (same_sqT s1 hS)⟩, for_it (walk_tup (K := K) (a := a) (xs := rs.map V.ref)) (fun i σ H2 => ∃ o, σ = [some (.ref a), some (.int (n + ((Pr.take i).map fun r => byteC r.d).sum)), some (.ref p), o] ∧ Same H H2 ∧ H2 p = some (.lst ((addrs (Pr.take i) n).map V.int)))
      ⟨none, by show _ = [some (V.ref a), some (V.int (n + 0)), some (V.ref p), none]; rw [Int.add_zero]; rfl, same_upd hp0 s1, upd_same⟩ (fun i σ H2 _ ⟨_, _, sm, _⟩ => same_sqT sm hS) ?_ ?_⟩
    · rintro i x σ H2 H3 hi ⟨o, rfl, sm, hD⟩ ⟨rfl, hx⟩
      rw [List.getElem?_map] at hx
      obtain ⟨b, hb, rfl⟩ := Option.map_eq_some_iff.mp hx
      obtain ⟨r, hr1, hr2⟩ := paired_atL hrs hb
      have hi' : i < Pr.length := (List.getElem?_eq_some_iff.mp hr1).1
      refine ⟨_, rfl, .inl ⟨rfl, _, SqL.of hD⟩, _, rfl, p, _, _, rfl, rfl, hD, small1000 (by rw [List.length_map, addrs_len, List.length_take]; omega), ?_⟩
      have sb : SqT K (upd H3 p (.lst ((addrs (Pr.take i) n).map V.int ++ [.int (n + ((Pr.take i).map fun r => byteC r.d).sum)]))) b (rowV r) := sameT_sqT ((sameT_of sm).trans (sameT_lst hD)) hr2
      refine ⟨_, rfl, _, rfl, b, _, 1, _, rfl, rfl, sb, nat_at (i := 1) rfl, r.d, rfl, _, _, rfl, rfl, some (.ref b), ?_, same_upd hp0 sm, ?_⟩
      · rw [take_snoc hr1, List.map_append, List.map_singleton, sum_snoc, ← Int.add_assoc]
        rfl
      · rw [take_snoc hr1, addrs_snoc, List.map_append]
        exact upd_same
    · rintro σ H2 ⟨o, rfl, sm, hD⟩
      have e : (rs.map V.ref).length = Pr.length := by rw [List.length_map]; exact hlen
      rw [e, List.take_length] at hD
      exact ⟨_, rfl, k H2 p sm hD⟩
def sp_is_crossed : Sp := fun vs H Q _ => ∃ a b, vs = [.int a, .int b] ∧ Q (.int (crossed a b)) H
abbrev N_is_crossed : List Str := ["one", "other"]
theorem sc_is_crossed : FnScope N_is_crossed ["one", "other"] (defScope s_is_crossed) := ⟨rfl, rfl, rfl, by decide +kernel, rfl, by decide +kernel, by decide +kernel⟩
theorem ok_is_crossed (T : TX K mg) : Ok P w K mg base 1 "is_crossed" ["one", "other"] sp_is_crossed := by
  refine T.d_is_crossed.ok sc_is_crossed (fun _ _ _ _ _ _ us hl => match us, hl with | [_, _], _ => rfl) (fun vs H Q E h => ?_) (fun f cdv A outer s H vs Q E hr h => ?_)
  · obtain ⟨_, _, rfl, _⟩ := h; rfl
  · obtain ⟨a, b, rfl, k⟩ := h
    refine ⟨_, (pss_one (ps_ret (pe_callTy call_int1 rfl T.n_int (by decide +kernel) (pa_cons (pe_cmpR op_ne (pe_op op_fdiv (pv 0) (pgi T.i_PAGE rfl)) (pe_op op_fdiv (pv 1) (pgi T.i_PAGE rfl)) (nomark _)) pa_nil)))), ?_⟩
    refine ⟨_, rfl, _, _, rfl, rfl, ⟨by decide, by decide⟩, _, rfl, _, _, rfl, rfl, ⟨by decide, by decide⟩, rfl, .inr ⟨_, rfl, ?_⟩⟩
    unfold crossed at k
    by_cases e : a / 32 = b / 32
    · rw [if_pos e] at k
      rw [decide_eq_true (show V.int (a / 32) = V.int (b / 32) by rw [e])]
      exact k
    · rw [if_neg e] at k
      rw [decide_eq_false (show ¬ V.int (a / 32) = V.int (b / 32) from fun z => e (V.int.inj z))]
      exact k
end

theorem paired_of {α β : Type} {F : α → β → Prop} : ∀ {xs : List α} {ys : List β}, xs.length = ys.length → (∀ (i : Nat) (x : α) (y : β), xs[i]? = some x → ys[i]? = some y → F x y) → Paired F xs ys
  | [], [], _, _ => .nil
  | [], _ :: _, h, _ => by simp at h
  | _ :: _, [], h, _ => by simp at h
  | x :: xs, y :: ys, h, f => .cons (f 0 x y rfl rfl) (paired_of (by simpa using h) fun i a b h1 h2 => f (i + 1) a b (by simpa using h1) (by simpa using h2))
def MarkOk (P : Pg) (r : Rw) : Prop := ∃ z, r.v = .str z ∧ ixOf P z < P.length
theorem MarkOk.tgt {P : Pg} {r : Rw} (h : MarkOk P r) : tgt P r < P.length := by
  obtain ⟨z, h1, h2⟩ := h
  unfold Br.tgt
  rw [h1]
  exact h2
theorem getD_at {A : List Int} {j : Nat} (h : j < A.length) : (A.map V.int)[j]? = some (.int (A.getD j 0)) := by
  rw [List.getElem?_map, List.getElem?_eq_getElem h, List.getD_eq_getElem?_getD, List.getElem?_eq_getElem h]
  rfl
theorem signOf_some {P : Pg} {A : List Int} {i : Nat} {r : Rw} (h : P[i]? = some r) : signOf P A i = if inS r.d IFS = true then .one (crossed (A.getD (tgt P r) 0) (A.getD (i + 1) 0)) else
      if eqS r.d "at" = true then .all ((List.range 256).map fun (x : Nat) => crossed (A.getD (tgt P r) 0) (A.getD (tgt P r) 0 + (x : Int))) else .non := by
  unfold signOf
  rw [h]
theorem nextRows_some {P : Pg} {i : Nat} {r : Rw} (h : P[i]? = some r) : nextRows P i = if eqS r.d "data" = true then [] else if eqS r.d "go" = true then [tgt P r] else if inS r.d IFS = true then [i + 1, tgt P r] else [i + 1] := by
  unfold nextRows
  rw [h]
theorem SgV.sameT {K : PySem.W.Frag} {H H' : Hp} {v : V} {s : Sg} (h : SgV K H v s) (e : SameT H H') : SgV K H' v s := by
  cases v <;> cases s <;> first | exact sameT_sqT e h | exact h
section
variable {P : Program} {w : World} {K : PySem.W.Frag} {mg : Str → Option Value} {base : Heap}
def sp_page_sign (K : PySem.W.Frag) : Sp := fun vs H Q _ => ∃ a pl Pr A i, vs = [.ref a, .ref pl, .int (i : Nat)] ∧ PgAt K H a Pr ∧ Pr.length ≤ 1000 ∧ SqL K H pl (A.map V.int) ∧ A.length = Pr.length ∧
  (∃ r, Pr[i]? = some r ∧ (inS r.d IFS = true → MarkOk Pr r ∧ i + 1 < Pr.length) ∧ (eqS r.d "at" = true → MarkOk Pr r)) ∧ ∀ H' v, Same H H' → SgV K H' v (signOf Pr A i) → Q v H'
abbrev N_page_sign : List Str := ["program", "places", "number", "mark", "deed", "value", "place", "x"]
theorem sc_page_sign : FnScope N_page_sign ["program", "places", "number"] (defScope s_page_sign) := ⟨rfl, rfl, rfl, by decide +kernel, rfl, by decide +kernel, by decide +kernel⟩
theorem ok_page_sign (T : TX K mg) : Ok P w K mg base 2 "page_sign" ["program", "places", "number"] (sp_page_sign K) := by
  refine T.d_page_sign.ok sc_page_sign (fun _ _ _ _ _ _ us hl => match us, hl with | [_, _, _], _ => rfl) (fun vs H Q E h => ?_) (fun f cdv A outer s H vs Q E hr h => ?_)
  · obtain ⟨_, _, _, _, _, rfl, _⟩ := h; rfl
  · obtain ⟨a, pl, Pr, A, i, rfl, hP, hl, hA, hAl, ⟨r, hi, h1, h2⟩, k⟩ := h
    obtain ⟨rs, b, hS, hb, hrow⟩ := hP.at hi
    rw [signOf_some hi] at k
    refine ⟨_, (pss_cons (ps_asg (pe_ix ix_tup (pv 0) (pv 2) (fun _ _ => rfl)) (pg_tup rfl (pgs_cons (pg_name (i := 3) sc_page_sign.nd rfl (Or.inl rfl)) (pgs_cons (pg_name (i := 4) sc_page_sign.nd rfl (Or.inl rfl)) (pgs_cons (pg_name (i := 5) sc_page_sign.nd rfl (Or.inl rfl)) pgs_nil)))))
        (pss_cons (ps_if (pt_cmpR op_in_seq (pv 4) (pgt T.c_IF_DEEDS_pages rfl) rfl) (pss_one (ps_ret (pcall (ok_is_crossed T) (hr.mono (by decide)) rfl (pa_cons (pe_ix ix_list (pv 1) (pcall (ok_row_of T) (hr.mono (by decide)) rfl (pa_cons (pv 0) (pa_cons (pv 5) pa_nil))) (fun _ _ => rfl)) (pa_cons (pe_ix ix_list (pv 1) (pe_op op_add (pv 2) pe_int) (fun _ _ => rfl)) pa_nil))))) pss_nil)
        (pss_cons (ps_if (pt_cmpR op_eq (pv 4) pe_str (nomark _)) (pss_cons (ps_set (i := 6) sc_page_sign.nd rfl (Or.inr rfl) (pe_ix ix_list (pv 1) (pcall (ok_row_of T) (hr.mono (by decide)) rfl (pa_cons (pv 0) (pa_cons (pv 5) pa_nil))) (fun _ _ => rfl)))
          (pss_one (ps_ret (pe_callTy call_tuple_of rfl T.n_tuple (by decide +kernel) (pa_cons (pe_lc (own := [("x", 7)]) (g := gName 7) (tt := tYes) (te := tCl sp_is_crossed (tCons (tVar 6) (tCons (tOp (rI0 fun i j => .int (i + j)) (tVar 6) (tVar 7)) tNil))) rfl sc_page_sign.nd (pi_range1 rfl T.n_range (pa_cons (pgi T.i_ROOM rfl) pa_nil)) (blkOk_by (N := N_page_sign) (sc := defScope s_page_sign) (by decide +kernel)) (fun _ _ _ _ _ => (pg_name (i := 7) sc_page_sign.nd rfl (Or.inl rfl))) (fun _ _ _ _ _ => pts_nil) (fun _ _ _ _ _ => (pcall (ok_is_crossed T) (hr.mono (by decide)) rfl (pa_cons (pv 6) (pa_cons (pe_op op_add (pv 6) (pv 7)) pa_nil))))) pa_nil))))) pss_nil)
        (pss_one (ps_ret pe_non))))), ?_⟩
    refine ⟨_, rfl, _, rfl, a, _, _, _, rfl, rfl, hS, nat_at hb, b, _, rfl, hrow, rfl, _, _, rfl, _, _, rfl, _, _, rfl, rfl, ?_⟩
    refine ⟨_, rfl, fun at0 hat => ⟨at0, _, rfl, .inr (hat _), rfl, rfl, _, rfl, ite_b (fun e => ?_) fun e => ?_⟩⟩
    · rw [if_pos (show inS r.d IFS = true from e)] at k
      obtain ⟨⟨z, hz, hzl⟩, hn⟩ := h1 e
      have ht : tgt Pr r = ixOf Pr z := by unfold tgt; rw [hz]; rfl
      refine ⟨_, rfl, _, rfl, _, rfl, a, Pr, z, by rw [hz], hP, hzl, hl, fun H1 s1 => ?_⟩
      refine ⟨pl, _, _, _, rfl, rfl, s1.seq hA, nat_at (getD_at (by omega)), _, rfl, _, rfl, _, _, rfl, rfl, pl, _, _, _, rfl, rfl, s1.seq hA, nat_at (i := i + 1) (getD_at (by omega)), _, _, rfl, ?_⟩
      rw [← ht]
      exact k H1 _ s1 rfl
    · rw [if_neg (inS_f e)] at k
      refine ⟨_, rfl, rfl, _, rfl, ite_b (fun e2 => ?_) fun e2 => ?_⟩
      · rw [if_pos (show eqS r.d "at" = true from e2)] at k
        obtain ⟨z, hz, hzl⟩ := h2 e2
        have ht : tgt Pr r = ixOf Pr z := by unfold tgt; rw [hz]; rfl
        refine ⟨_, rfl, _, rfl, _, rfl, a, Pr, z, by rw [hz], hP, hzl, hl, fun H1 s1 => ?_⟩
        refine ⟨pl, _, _, _, rfl, rfl, s1.seq hA, nat_at (getD_at (by omega)), ?_⟩
        rw [← ht]
        refine ⟨256, rfl, by decide, by decide, fun D hD => lc_rel (walk_range (lo := 0) (n := 256)) (fun x y _ => y = .int (crossed (A.getD (tgt Pr r) 0) (A.getD (tgt Pr r) 0 + (x : Int)))) (fun _ _ _ _ h _ => h) (by decide) hD (fun _ _ => True.intro) hY_fn ?_ ?_⟩
        · rintro x v H2 H3 C C0 hx sm ⟨rfl, rfl⟩ hC
          refine ⟨rfl, yesT ⟨_, rfl, _, rfl, _, rfl, _, _, rfl, rfl, _, _, rfl, hC _ _ (Same.refl _) ?_⟩⟩
          rw [Int.zero_add]
        · intro H3 ys sm hD' hn hy
          refine ⟨D, ys, rfl, .inl ⟨SqL.of hD', fun l hl' => ?_⟩⟩
          have ey : ys = ((List.range 256).map fun (x : Nat) => crossed (A.getD (tgt Pr r) 0) (A.getD (tgt Pr r) 0 + (x : Int))).map V.int := by
            rw [List.map_map]
            exact list_of_rel hn hy
          exact k _ _ ((s1.trans sm).trans (same_new hl')) (show SqT K _ l _ by rw [← ey]; exact SqT.of upd_same)
      · rw [if_neg (eqS_f e2)] at k
        exact k H .non (Same.refl H) True.intro
def SignsOk (Pr : Pg) : Prop := ∀ (i : Nat) (r : Rw), Pr[i]? = some r → (inS r.d IFS = true → MarkOk Pr r ∧ i + 1 < Pr.length) ∧ (eqS r.d "at" = true → MarkOk Pr r)
def sp_page_signs (K : PySem.W.Frag) : Sp := fun vs H Q _ => ∃ a Pr, vs = [.ref a, .int 0] ∧ PgAt K H a Pr ∧ Pr.length ≤ 1000 ∧ (Pr.map fun r => byteC r.d).sum ≤ 256 ∧ SignsOk Pr ∧ ∀ H' p, Same H H' → SgsAt K H' p (signsOf Pr) → Q (.ref p) H'
abbrev N_page_signs : List Str := ["program", "base", "places", "number"]
theorem sc_page_signs : FnScope N_page_signs ["program", "base"] (defScope s_page_signs) := ⟨rfl, rfl, rfl, by decide +kernel, rfl, by decide +kernel, by decide +kernel⟩
theorem ok_page_signs (T : TX K mg) : Ok P w K mg base 5 "page_signs" ["program", "base"] (sp_page_signs K) := by
  refine T.d_page_signs.ok sc_page_signs (fun _ _ _ _ _ _ us hl => match us, hl with | [_, _], _ => rfl) (fun vs H Q E h => ?_) (fun f cdv A outer s H vs Q E hr h => ?_)
  · obtain ⟨_, _, rfl, _⟩ := h; rfl
  · obtain ⟨a, Pr, rfl, hP, hl, hsum, hso, k⟩ := h
    obtain ⟨rs, hS, hrs⟩ := hP.len
    refine ⟨_, (pss_cons (ps_set (i := 2) sc_page_signs.nd rfl (Or.inr rfl) (pcall (ok_addresses T) (hr.mono (by decide)) rfl (pa_cons (pv 0) (pa_cons (pv 1) pa_nil))))
        (pss_one (ps_ret (pe_callTy call_tuple_of rfl T.n_tuple (by decide +kernel) (pa_cons (pe_lc (own := [("number", 3)]) (g := gName 3) (tt := tYes) (te := tCl (sp_page_sign K) (tCons (tVar 0) (tCons (tVar 2) (tCons (tVar 3) tNil)))) rfl sc_page_signs.nd (pi_range1 rfl T.n_range (pa_cons (pe_callB call_len_seq rfl T.n_len (by decide +kernel) (pa_cons (pv 0) pa_nil)) pa_nil)) (blkOk_by (N := N_page_signs) (sc := defScope s_page_signs) (by decide +kernel)) (fun _ _ _ _ _ => (pg_name (i := 3) sc_page_signs.nd rfl (Or.inl rfl))) (fun _ _ _ _ _ => pts_nil) (fun _ _ _ _ _ => (pcall (ok_page_sign T) (hr.mono (by decide)) rfl (pa_cons (pv 0) (pa_cons (pv 2) (pa_cons (pv 3) pa_nil)))))) pa_nil))))), ?_⟩
    refine ⟨_, rfl, _, rfl, a, Pr, 0, rfl, hP, hl, by omega, fun H1 pl s1 hpl => ?_⟩
    refine ⟨_, rfl, a, _, rfl, .inr (same_sqT s1 hS), ((rs.map V.ref).length : Nat), rfl, by omega, by rw [List.length_map]; omega, fun D hD => ?_⟩
    have en : (((rs.map V.ref).length : Nat) : Int).toNat = Pr.length := by rw [List.length_map, hrs]; rfl
    rw [en]
    refine lc_rel (walk_range (lo := 0) (n := Pr.length)) (fun x y H2 => SgV K H2 y (signOf Pr (addrs Pr 0) x)) (fun _ _ _ _ h e => h.sameT e) hl hD (fun _ _ => True.intro) hY_fn ?_ ?_
    · rintro x v H2 H3 C C0 hx sm ⟨rfl, rfl⟩ hC
      have hx2 := List.getElem?_eq_getElem hx
      exact ⟨rfl, yesT ⟨_, rfl, _, rfl, _, rfl, a, pl, Pr, addrs Pr 0, x, (by show [V.ref a, V.ref pl, V.int (0 + (x : Int))] = _; rw [Int.zero_add]), hP.same (s1.trans sm), hl, sm.seq (SqL.of hpl), addrs_len _ _, ⟨_, hx2, hso x _ hx2⟩, fun H4 v s4 hv => hC H4 v s4 hv⟩⟩
    · intro H3 ys sm hD' hn hy
      refine ⟨D, ys, rfl, .inl ⟨SqL.of hD', fun l hl' => k _ l ((s1.trans sm).trans (same_new hl')) ⟨ys, SqT.of upd_same, paired_of (by unfold signsOf; rw [List.length_map, List.length_range]; exact hn) fun i y sg h1 h2 => ?_⟩⟩⟩
      have e : sg = signOf Pr (addrs Pr 0) i := by
        have hi : i < Pr.length := by rw [← hn]; exact (List.getElem?_eq_some_iff.mp h1).1
        unfold signsOf at h2
        rw [List.getElem?_map, List.getElem?_range hi] at h2
        exact (Option.some.inj h2).symm
      rw [e]
      exact (hy i y h1).same (same_new hl')
def sp_next_rows (K : PySem.W.Frag) : Sp := fun vs H Q _ => ∃ a Pr i, vs = [.ref a, .int (i : Nat)] ∧ PgAt K H a Pr ∧ Pr.length ≤ 1000 ∧
  (∃ r, Pr[i]? = some r ∧ (eqS r.d "go" = true ∨ inS r.d IFS = true → MarkOk Pr r)) ∧ ∀ H' p (L : List Int), Same H H' → H' p = some (.lst (L.map V.int)) → (∀ x : Nat, (x : Int) ∈ L ↔ x ∈ nextRows Pr i) → Q (.ref p) H'
abbrev N_next_rows : List Str := ["program", "row", "mark", "deed", "value"]
theorem sc_next_rows : FnScope N_next_rows ["program", "row"] (defScope s_next_rows) := ⟨rfl, rfl, rfl, by decide +kernel, rfl, by decide +kernel, by decide +kernel⟩
theorem ok_next_rows (T : TX K mg) : Ok P w K mg base 2 "next_rows" ["program", "row"] (sp_next_rows K) := by
  refine T.d_next_rows.ok sc_next_rows (fun _ _ _ _ _ _ us hl => match us, hl with | [_, _], _ => rfl) (fun vs H Q E h => ?_) (fun f cdv A outer s H vs Q E hr h => ?_)
  · obtain ⟨_, _, _, rfl, _⟩ := h; rfl
  · obtain ⟨a, Pr, i, rfl, hP, hl, ⟨r, hi, hm⟩, k⟩ := h
    obtain ⟨rs, b, hS, hb, hrow⟩ := hP.at hi
    rw [nextRows_some hi] at k
    refine ⟨_, (pss_cons (ps_asg (pe_ix ix_tup (pv 0) (pv 1) (fun _ _ => rfl)) (pg_tup rfl (pgs_cons (pg_name (i := 2) sc_next_rows.nd rfl (Or.inl rfl)) (pgs_cons (pg_name (i := 3) sc_next_rows.nd rfl (Or.inl rfl)) (pgs_cons (pg_name (i := 4) sc_next_rows.nd rfl (Or.inl rfl)) pgs_nil)))))
        (pss_cons (ps_if (pt_cmpR op_eq (pv 3) pe_str (nomark _)) (pss_one (ps_ret (pe_lst pa_nil))) pss_nil)
        (pss_cons (ps_if (pt_cmpR op_eq (pv 3) pe_str (nomark _)) (pss_one (ps_ret (pe_lst (pa_cons (pcall (ok_row_of T) (hr.mono (by decide)) rfl (pa_cons (pv 0) (pa_cons (pv 4) pa_nil))) pa_nil)))) pss_nil)
        (pss_cons (ps_if (pt_cmpR op_in_seq (pv 3) (pgt T.c_IF_DEEDS_deeds rfl) rfl) (pss_one (ps_ret (pe_callB (cr_sortedSet rfl) rfl T.n_sorted (by decide +kernel) (pa_cons (pe_callTy (cr_setL rfl) rfl T.n_set (by decide +kernel) (pa_cons (pe_lst (pa_cons (pe_op op_add (pv 1) pe_int) (pa_cons (pcall (ok_row_of T) (hr.mono (by decide)) rfl (pa_cons (pv 0) (pa_cons (pv 4) pa_nil))) pa_nil))) pa_nil)) pa_nil)))) pss_nil)
        (pss_one (ps_ret (pe_lst (pa_cons (pe_op op_add (pv 1) pe_int) pa_nil)))))))), ?_⟩
    refine ⟨_, rfl, _, rfl, a, _, _, _, rfl, rfl, hS, nat_at hb, b, _, rfl, hrow, rfl, _, _, rfl, _, _, rfl, _, _, rfl, rfl, ?_⟩
    refine ⟨_, rfl, rfl, _, rfl, ite_b (fun e => ?_) fun e => ?_⟩
    · rw [if_pos (show eqS r.d "data" = true from e)] at k
      exact ⟨Nat.zero_le _, fun p hp => k _ p [] (same_new hp) upd_same (by simp)⟩
    · rw [if_neg (eqS_f e)] at k
      refine ⟨_, rfl, rfl, _, rfl, ite_b (fun e2 => ?_) fun e2 => ?_⟩
      · rw [if_pos (show eqS r.d "go" = true from e2)] at k
        obtain ⟨z, hz, hzl⟩ := hm (.inl e2)
        have ht : tgt Pr r = ixOf Pr z := by unfold tgt; rw [hz]; rfl
        refine ⟨_, rfl, _, rfl, a, Pr, z, by rw [hz], hP, hzl, hl, fun H1 s1 => ⟨(by show 1 ≤ sizeLine; decide), fun p hp => ?_⟩⟩
        rw [ht] at k
        exact k _ p [((ixOf Pr z : Nat) : Int)] (s1.trans (same_new hp)) upd_same (fun x => by simp only [List.mem_cons, List.not_mem_nil, or_false]; omega)
      · rw [if_neg (eqS_f e2)] at k
        refine ⟨_, rfl, fun at0 hat => ⟨at0, _, rfl, .inr (hat _), rfl, rfl, _, rfl, ite_b (fun e3 => ?_) fun e3 => ?_⟩⟩
        · rw [if_pos (show inS r.d IFS = true from e3)] at k
          obtain ⟨z, hz, hzl⟩ := hm (.inr e3)
          have ht : tgt Pr r = ixOf Pr z := by unfold tgt; rw [hz]; rfl
          rw [ht] at k
          refine ⟨_, rfl, _, _, rfl, rfl, _, rfl, _, rfl, a, Pr, z, by rw [hz], hP, hzl, hl, fun H1 s1 => ⟨(by show 2 ≤ sizeLine; decide), fun p hp => ?_⟩⟩
          refine ⟨p, [(i : Int) + 1, ((ixOf Pr z : Nat) : Int)], rfl, SqL.of upd_same, (by show 2 ≤ 60; decide), fun q c hq hc => ?_⟩
          refine ⟨q, _, c, rfl, upd_same, (by have : c ≤ 2 := hc; omega), fun ns p2 hs hmem hlen hp2 => ?_⟩
          refine k _ p2 ns (((s1.trans (same_new hp)).trans (same_new hq)).trans (same_new hp2)) upd_same fun x => ?_
          rw [hmem, decide_eq_true_iff]
          simp only [List.mem_cons, List.not_mem_nil, or_false]
          omega
        · rw [if_neg (inS_f e3)] at k
          exact ⟨_, rfl, _, _, rfl, rfl, (by show 1 ≤ sizeLine; decide), fun p hp => k _ p [(i : Int) + 1] (same_new hp) upd_same fun x => by simp only [List.mem_cons, List.not_mem_nil, or_false]; omega⟩
end

theorem perm_paired {α β : Type} {F : α → β → Prop} {xs ys : List α} (h : ys.Perm xs) : ∀ {L : List β}, Paired F xs L → ∃ L', L'.Perm L ∧ Paired F ys L' := by
  induction h with
  | nil => exact fun {L} p => ⟨L, List.Perm.refl _, p⟩
  | cons x _ ih =>
    intro L p
    cases p with
    | cons r t =>
      obtain ⟨L', h1, h2⟩ := ih t
      exact ⟨_ :: L', h1.cons _, .cons r h2⟩
  | swap x y l =>
    intro L p
    cases p with
    | cons r t =>
      cases t with
      | cons r2 t2 => exact ⟨_, List.Perm.swap .., .cons r2 (.cons r t2)⟩
  | trans _ _ ih1 ih2 =>
    intro L p
    obtain ⟨L1, h1, h2⟩ := ih2 p
    obtain ⟨L2, h3, h4⟩ := ih1 h2
    exact ⟨L2, h3.trans h1, h4⟩
/-- a cut of a tuple -/
theorem slA_of {K : PySem.W.Frag} {a : Addr} {xs : List V} {lo hi : Option Int} {H : Hp} {Q : VK} (h : SqT K H a xs) (k : ∀ p H', Same H H' → SqT K H' p (cutV xs lo hi) → Q (.ref p) H') : rSlA K (.ref a) lo hi H Q := by
  refine ⟨a, xs, rfl, h, fun e => k a H (Same.refl H) ?_, fun _ p hp => k p _ (same_new hp) (SqT.of upd_same)⟩
  unfold cutV
  rw [e.1, e.2, Nat.sub_zero, List.drop_zero, List.take_length]
  exact h
theorem cutV_nat {xs : List V} {lo hi : Int} (h1 : 0 ≤ lo) (h2 : lo ≤ hi) (h3 : hi < xs.length) : cutV xs (some lo) (some (hi + 1)) = (xs.drop lo.toNat).take (hi.toNat + 1 - lo.toNat) := by
  unfold cutV
  have e1 : HT.sIx xs.length 0 (some lo) = lo.toNat := by
    obtain ⟨n, rfl⟩ : ∃ n : Nat, lo = n := ⟨lo.toNat, by omega⟩
    rw [HT.sIx_nat]
    omega
  have e2 : HT.sIx xs.length xs.length (some (hi + 1)) = hi.toNat + 1 := by
    obtain ⟨n, rfl⟩ : ∃ n : Nat, hi = n := ⟨hi.toNat, by omega⟩
    have := HT.sIx_nat xs.length xs.length (n + 1)
    rw [show ((n : Int) + 1) = ((n + 1 : Nat) : Int) by omega, this]
    omega
  rw [e1, e2]
theorem cutI_map (l : List Int) (lo hi : Int) : ((l.map V.int).drop lo.toNat).take (hi.toNat + 1 - lo.toNat) = (cutI l lo hi).map V.int := by
  unfold cutI
  rw [← List.map_drop, ← List.map_take]
theorem cutI_cons {l : List Int} {lo hi : Int} (h1 : 0 ≤ lo) (h2 : lo ≤ hi) (h3 : hi < l.length) : ∃ n ns, cutI l lo hi = n :: ns := by
  have hl : 0 < (cutI l lo hi).length := by
    unfold cutI
    rw [List.length_take, List.length_drop]
    omega
  match hc : cutI l lo hi, hl with
  | n :: ns, _ => exact ⟨n, ns, rfl⟩
def XV (H : Hp) (v : V) (o : Option (Int × Int)) : Prop := match o with
  | none => v = .non
  | some (a, c) => ∃ p, v = .ref p ∧ H p = some (.tup [.int a, .int c])
theorem XV.same {H H' : Hp} {v : V} {o : Option (Int × Int)} (h : XV H v o) (e : Same H H') : XV H' v o := by
  cases o with
  | none => exact h
  | some p => obtain ⟨p, h1, h2⟩ := h; exact ⟨p, h1, e _ _ h2⟩
def cmV (c : Cm) : List V := [.int (c.r : Nat), .int c.lo, .int c.hi, .int c.z, .int c.ls, .int c.ms]
def CmV (H : Hp) (v : V) (c : Cm) : Prop := ∃ b, v = .ref b ∧ H b = some (.tup (cmV c))
theorem CmV.sameT {H H' : Hp} {v : V} {c : Cm} (h : CmV H v c) (e : SameT H H') : CmV H' v c := by
  obtain ⟨b, h1, h2⟩ := h
  exact ⟨b, h1, e.tup _ _ h2⟩
structure Rng (lo hi z : Int) : Prop where
  l0 : 0 ≤ lo
  lh : lo ≤ hi
  h255 : hi ≤ 255
  z01 : z = 0 ∨ z = 1
theorem dec_i {a b : Int} : decide (V.int a = V.int b) = decide (a = b) := by
  by_cases h : a = b
  · rw [decide_eq_true h, decide_eq_true (by rw [h])]
  · rw [decide_eq_false h, decide_eq_false (fun z => h (V.int.inj z))]
section
variable {P : Program} {w : World} {K : PySem.W.Frag} {mg : Str → Option Value} {base : Heap}
def sp_x_behind : Sp := fun vs H Q _ => ∃ r lo hi z, vs = [.str r.d, r.v, .int lo, .int hi, .int z] ∧ (eqS r.d "getx" = false ∧ eqS r.d "tox" = false ∧ eqS r.d "up" = false ∧ eqS r.d "down" = false) ∧ (eqS r.d "setx" = true → ∃ x, r.v = .int x) ∧ (z = 0 ∨ z = 1) ∧
  ∀ H' p b, Same H H' → H' p = some (.lst [.ref b]) → H' b = some (.tup [.int (xBehind r lo hi z).1, .int (xBehind r lo hi z).2.1, .int (xBehind r lo hi z).2.2]) → Q (.ref p) H'
abbrev N_x_behind : List Str := ["deed", "value", "low", "high", "zero", "least", "most"]
theorem sc_x_behind : FnScope N_x_behind ["deed", "value", "low", "high", "zero"] (defScope s_x_behind) := ⟨rfl, rfl, rfl, by decide +kernel, rfl, by decide +kernel, by decide +kernel⟩
theorem ok_x_behind (T : TX K mg) : Ok P w K mg base 1 "x_behind" ["deed", "value", "low", "high", "zero"] sp_x_behind := by
  refine T.d_x_behind.ok sc_x_behind (fun _ _ _ _ _ _ us hl => match us, hl with | [_, _, _, _, _], _ => rfl) (fun vs H Q E h => ?_) (fun f cdv A outer s H vs Q E hr h => ?_)
  · obtain ⟨_, _, _, _, rfl, _⟩ := h; rfl
  · obtain ⟨r, lo, hi, z, rfl, ⟨g1, g2, g3, g4⟩, hsx, hz, k⟩ := h
    have fin : ∀ (H1 : Hp) (a b c : Int), Same H H1 → xBehind r lo hi z = (a, b, c) → ∀ p, H1 p = none → ∀ q, (upd H1 p (.tup [.int a, .int b, .int c])) q = none → Q (.ref q) (upd (upd H1 p (.tup [.int a, .int b, .int c])) q (.lst [.ref p])) := fun H1 a b c s1 e p hp q hq => by
      have npq : p ≠ q := ne_of_none upd_same hq
      refine k _ q p ((s1.trans (same_new hp)).trans (same_new hq)) upd_same ?_
      rw [upd_ne npq, e]
      exact upd_same
    refine ⟨_, (pss_cons (ps_if (pt_cmpR op_eq (pv 0) pe_str (nomark _)) (pss_one (ps_ret (pe_lst (pa_cons (pe_tup (pa_cons (pv 1) (pa_cons (pv 1) (pa_cons pe_int pa_nil)))) pa_nil)))) pss_nil)
        (pss_cons (ps_if (PW.pt (pw_or (pt_cmpR op_eq (pv 0) pe_str (nomark _)) (pw_or1 (pt_cmpR op_eq (pv 0) pe_str (nomark _))))) pss_never pss_nil)
        (pss_cons (ps_if (pt_cmpR op_eq (pv 0) pe_str (nomark _)) pss_never pss_nil)
        (pss_cons (ps_if (pt_cmpR op_eq (pv 0) pe_str (nomark _)) pss_never pss_nil)
        (pss_cons (ps_if (pt_cmpR op_eq (pv 0) pe_str (nomark _)) (pss_one (ps_ret (pe_lst (pa_cons (pe_tup (pa_cons (pv 2) (pa_cons (pv 3) (pa_cons pe_int pa_nil)))) pa_nil)))) pss_nil)
        (pss_one (ps_ret (pe_lst (pa_cons (pe_tup (pa_cons (pv 2) (pa_cons (pv 3) (pa_cons (pe_op op_mul (pv 4) (pe_callTy call_int1 rfl T.n_int (by decide +kernel) (pa_cons (pe_cmpR op_in_seq (pv 0) (pgt T.c_SAME_FLAG rfl) rfl) pa_nil))) pa_nil)))) pa_nil))))))))), ?_⟩
    refine ⟨_, rfl, rfl, _, rfl, ite_b (fun e => ?_) fun e => ?_⟩
    · obtain ⟨x, hx⟩ := hsx e
      have ex : xBehind r lo hi z = (x, x, 1) := by unfold xBehind; rw [if_pos (show eqS r.d "setx" = true from e), hx]; rfl
      rw [hx]
      exact ⟨_, rfl, _, rfl, (by show 3 ≤ sizeLine; decide), fun p hp => ⟨(by show 1 ≤ sizeLine; decide), fin H x x 1 (Same.refl H) ex p hp⟩⟩
    · refine ⟨_, rfl, rfl, _, rfl, ?_⟩
      rw [show decide (V.str r.d = V.str "getx") = false from g1]
      refine iteF ⟨_, rfl, rfl, _, rfl, ?_⟩
      rw [show decide (V.str r.d = V.str "tox") = false from g2]
      refine iteF ⟨_, rfl, rfl, _, rfl, ?_⟩
      rw [show decide (V.str r.d = V.str "up") = false from g3]
      refine iteF ⟨_, rfl, rfl, _, rfl, ?_⟩
      rw [show decide (V.str r.d = V.str "down") = false from g4]
      refine iteF ⟨_, rfl, rfl, _, rfl, ite_b (fun e2 => ?_) fun e2 => ?_⟩
      · have ex : xBehind r lo hi z = (lo, hi, 1) := by unfold xBehind; rw [if_neg (eqS_f e), if_pos (show eqS r.d "toa" = true from e2)]
        exact ⟨_, rfl, _, rfl, (by show 3 ≤ sizeLine; decide), fun p hp => ⟨(by show 1 ≤ sizeLine; decide), fin H lo hi 1 (Same.refl H) ex p hp⟩⟩
      · have ex : xBehind r lo hi z = (lo, hi, z * (if inS r.d SAME = true then 1 else 0)) := by unfold xBehind; rw [if_neg (eqS_f e), if_neg (eqS_f e2)]
        refine ⟨_, rfl, _, rfl, _, rfl, _, rfl, fun a ha => ⟨a, _, rfl, .inr (ha _), rfl, rfl, .inr ⟨_, rfl, _, _, rfl, rfl, .inl ⟨by omega, by omega⟩, ?_⟩⟩⟩
        exact ⟨(by show 3 ≤ sizeLine; decide), fun p hp => ⟨(by show 1 ≤ sizeLine; decide), fin H lo hi _ (Same.refl H) ex p hp⟩⟩
def sp_x_where : Sp := fun vs H Q _ => ∃ lo hi z b, vs = [.int lo, .int hi, .int z, .bl b] ∧ ∀ H' v, Same H H' → XV H' v (xWhere lo hi z b) → Q v H'
abbrev N_x_where : List Str := ["low", "high", "zero", "is_set"]
theorem sc_x_where : FnScope N_x_where ["low", "high", "zero", "is_set"] (defScope s_x_where) := ⟨rfl, rfl, rfl, by decide +kernel, rfl, by decide +kernel, by decide +kernel⟩
theorem ok_x_where (T : TX K mg) : Ok P w K mg base 1 "x_where" ["low", "high", "zero", "is_set"] sp_x_where := by
  refine T.d_x_where.ok sc_x_where (fun _ _ _ _ _ _ us hl => match us, hl with | [_, _, _, _], _ => rfl) (fun vs H Q E h => ?_) (fun f cdv A outer s H vs Q E hr h => ?_)
  · obtain ⟨_, _, _, _, rfl, _⟩ := h; rfl
  · obtain ⟨lo, hi, z, b, rfl, k⟩ := h
    refine ⟨_, (pss_cons (ps_if (pt_cmpR op_eq (pv 2) pe_int (nomark _)) (pss_one (ps_ret (pe_tup (pa_cons (pv 0) (pa_cons (pv 1) pa_nil))))) pss_nil)
        (pss_cons (ps_if (PW.pt (pw_and (pt_val (pv 3)) (pw_and1 (pt_cmpR op_eq (pv 0) pe_int (nomark _))))) (pss_one (ps_ret (pe_tup (pa_cons pe_int (pa_cons pe_int pa_nil))))) pss_nil)
        (pss_cons (ps_if (PW.pt (pw_and (pt_not (pt_val (pv 3))) (pw_and1 (pt_cmpR op_gt (pv 1) pe_int (nomark _))))) (pss_one (ps_ret (pe_tup (pa_cons (pe_callB (call_max2 rfl) rfl T.n_max (by decide +kernel) (pa_cons pe_int (pa_cons (pv 0) pa_nil))) (pa_cons (pv 1) pa_nil))))) pss_nil)
        (pss_one (ps_ret pe_non))))), ?_⟩
    unfold xWhere at k
    refine ⟨_, rfl, rfl, _, rfl, ite_b (fun e => ?_) fun e => ?_⟩
    · rw [if_pos (show z = 0 by rw [dec_i] at e; exact of_decide_eq_true e)] at k
      exact ⟨_, rfl, _, rfl, (by show 2 ≤ sizeLine; decide), fun p hp => k _ _ (same_new hp) ⟨p, rfl, upd_same⟩⟩
    · rw [if_neg (show ¬ z = 0 by rw [dec_i] at e; exact of_decide_eq_false e)] at k
      have last : ∀ k2 : (∀ H' v, Same H H' → XV H' v (if (!b && decide (0 < hi)) = true then some (if lo > 1 then lo else 1, hi) else none) → Q v H'), b = false → ∃ v, ([some (V.int lo), some (V.int hi), some (V.int z), some (V.bl b)] : L2.St)[1]? = some (some v) ∧ ∃ i j, v = V.int i ∧ V.int 0 = V.int j ∧ ∃ c, V.bl (decide (j < i)) = V.bl c ∧ (c = true → ∀ p, H p = none → Q (.ref p) (upd H p (.tup [.int (if lo > 1 then lo else 1), .int hi]))) ∧ (c = false → Q .non H) := fun k2 hb => by
        subst hb
        refine ⟨_, rfl, _, _, rfl, rfl, _, rfl, fun e2 p hp => ?_, fun e2 => ?_⟩
        · have e3 : (!false && decide (0 < hi)) = true := e2
          rw [if_pos e3] at k2
          exact k2 _ _ (same_new hp) ⟨p, rfl, upd_same⟩
        · have e3 : ¬ (!false && decide (0 < hi)) = true := fun h => by
            have h2 : decide (0 < hi) = true := h
            rw [h2] at e2
            cases e2
          rw [if_neg e3] at k2
          exact k2 _ _ (Same.refl H) rfl
      cases b with
      | true =>
        refine ⟨_, rfl, _, rfl, iteT ⟨_, rfl, rfl, _, rfl, ite_b (fun e2 => ?_) fun e2 => ?_⟩⟩
        · rw [dec_i] at e2
          rw [if_pos (show (true && decide (lo = 0)) = true from e2)] at k
          exact ⟨(by show 2 ≤ sizeLine; decide), fun p hp => k _ _ (same_new hp) ⟨p, rfl, upd_same⟩⟩
        · rw [dec_i] at e2
          rw [if_neg (show ¬ (true && decide (lo = 0)) = true from fun h => by rw [show decide (lo = 0) = true from h] at e2; cases e2), if_neg (by simp)] at k
          exact ⟨_, rfl, _, rfl, iteF (iteF (k _ _ (Same.refl H) rfl))⟩
      | false =>
        rw [if_neg (by simp)] at k
        obtain ⟨v, h1, i, j, rfl, h2, c, h3, h4, h5⟩ := last k rfl
        refine ⟨_, rfl, _, rfl, iteF (iteF ⟨_, rfl, _, rfl, iteT ⟨_, rfl, _, _, rfl, rfl, _, rfl, ite_b (fun e2 => ?_) fun e2 => ?_⟩⟩)⟩
        · have e3 : (!false && decide (0 < hi)) = true := e2
          rw [if_pos e3] at k
          exact ⟨_, rfl, _, _, rfl, _, rfl, (by show 2 ≤ sizeLine; decide), fun p hp => k _ _ (same_new hp) ⟨p, rfl, upd_same⟩⟩
        · have e3 : ¬ (!false && decide (0 < hi)) = true := fun h => by
            have h2 : decide (0 < hi) = true := h
            rw [h2] at e2
            cases e2
          rw [if_neg e3] at k
          exact k _ _ (Same.refl H) rfl
def sp_x_gone : Sp := fun vs H Q _ => ∃ d lo hi z b, vs = [.str d, .int lo, .int hi, .int z, .bl b] ∧ ∀ H' v, Same H H' → XV H' v (xGone d lo hi z b) → Q v H'
abbrev N_x_gone : List Str := ["deed", "low", "high", "zero", "is_gone"]
theorem sc_x_gone : FnScope N_x_gone ["deed", "low", "high", "zero", "is_gone"] (defScope s_x_gone) := ⟨rfl, rfl, rfl, by decide +kernel, rfl, by decide +kernel, by decide +kernel⟩
theorem ok_x_gone (T : TX K mg) : Ok P w K mg base 2 "x_gone" ["deed", "low", "high", "zero", "is_gone"] sp_x_gone := by
  refine T.d_x_gone.ok sc_x_gone (fun _ _ _ _ _ _ us hl => match us, hl with | [_, _, _, _, _], _ => rfl) (fun vs H Q E h => ?_) (fun f cdv A outer s H vs Q E hr h => ?_)
  · obtain ⟨_, _, _, _, _, rfl, _⟩ := h; rfl
  · obtain ⟨d, lo, hi, z, b, rfl, k⟩ := h
    refine ⟨_, (pss_cons (ps_if (pt_cmpR op_eq (pv 0) pe_str (nomark _)) (pss_one (ps_ret (pcall (ok_x_where T) (hr.mono (by decide)) rfl (pa_cons (pv 1) (pa_cons (pv 2) (pa_cons (pv 3) (pa_cons (pv 4) pa_nil))))))) pss_nil)
        (pss_cons (ps_if (pt_cmpR op_eq (pv 0) pe_str (nomark _)) (pss_one (ps_ret (pcall (ok_x_where T) (hr.mono (by decide)) rfl (pa_cons (pv 1) (pa_cons (pv 2) (pa_cons (pv 3) (pa_cons (pe_not (pv 4)) pa_nil))))))) pss_nil)
        (pss_one (ps_ret (pe_tup (pa_cons (pv 1) (pa_cons (pv 2) pa_nil))))))), ?_⟩
    unfold xGone at k
    refine ⟨_, rfl, rfl, _, rfl, ite_b (fun e => ?_) fun e => ?_⟩
    · rw [if_pos (show eqS d "ifz" = true from e)] at k
      exact ⟨_, rfl, _, rfl, _, rfl, _, rfl, lo, hi, z, b, rfl, k⟩
    · rw [if_neg (eqS_f e)] at k
      refine ⟨_, rfl, rfl, _, rfl, ite_b (fun e2 => ?_) fun e2 => ?_⟩
      · rw [if_pos (show eqS d "ifn" = true from e2)] at k
        exact ⟨_, rfl, _, rfl, _, rfl, _, rfl, _, rfl, lo, hi, z, !b, rfl, k⟩
      · rw [if_neg (eqS_f e2)] at k
        exact ⟨_, rfl, _, rfl, (by show 2 ≤ sizeLine; decide), fun p hp => k _ _ (same_new hp) ⟨p, rfl, upd_same⟩⟩
end

def ifPart (d : Str) (lo hi z : Int) (w : Nat × Bool × Int) : List Cm := match xGone d lo hi z w.2.1 with
  | some (a, b) => [⟨w.1, a, b, z, w.2.2, w.2.2⟩]
  | none => []
def ifWays (P : Pg) (r : Rw) (i : Nat) (n : Int) : List (Nat × Bool × Int) := [(i + 1, false, 2), (tgt P r, true, 3 + n)]
def wayV (w : Nat × Bool × Int) : List V := [.int (w.1 : Nat), .bl w.2.1, .int w.2.2]
theorem comes_if {P : Pg} {S : List Sg} {i : Nat} {r : Rw} {lo hi z n : Int} (h : P[i]? = some r) (hd : inS r.d IFS = true) (hs : S[i]? = some (.one n)) : comesOf P S i lo hi z = (ifWays P r i n).flatMap (ifPart r.d lo hi z) := by
  unfold comesOf
  rw [h]
  show (if inS r.d IFS = true then _ else _) = _
  rw [if_pos hd, hs]
  show _ = ifPart r.d lo hi z (i + 1, false, 2) ++ (ifPart r.d lo hi z (tgt P r, true, 3 + n) ++ [])
  rw [List.append_nil]
  rfl
theorem comes_other {P : Pg} {S : List Sg} {i : Nat} {r : Rw} {lo hi z : Int} (h : P[i]? = some r) (hd : ¬ inS r.d IFS = true) : comesOf P S i lo hi z = [⟨if eqS r.d "go" = true then tgt P r else i + 1, (xBehind r lo hi z).1, (xBehind r lo hi z).2.1, (xBehind r lo hi z).2.2,
        beatC r.d + (if eqS r.d "at" = true then minL (cutI (sAll S[i]?) lo hi) else 0), beatC r.d + (if eqS r.d "at" = true then maxL (cutI (sAll S[i]?) lo hi) else 0)⟩] := by
  unfold comesOf
  rw [h]
  show (if inS r.d IFS = true then _ else _) = _
  rw [if_neg hd]
theorem flatMap_snoc {α β : Type} (l : List α) (x : α) (f : α → List β) : (l ++ [x]).flatMap f = l.flatMap f ++ f x := by
  rw [List.flatMap_append]
  simp
theorem xWhere_rng {lo hi z : Int} {b : Bool} {p : Int × Int} (h : xWhere lo hi z b = some p) (R : Rng lo hi z) : 0 ≤ p.1 ∧ p.1 ≤ p.2 ∧ p.2 ≤ 255 := by
  obtain ⟨h1, h2, h3, h4⟩ := R
  unfold xWhere at h
  split at h
  · cases h; exact ⟨h1, h2, h3⟩
  · split at h
    · cases h; exact ⟨by decide, by decide, by decide⟩
    · split at h
      · rename_i hh
        have : 0 < hi := by
          simp only [Bool.and_eq_true, decide_eq_true_eq] at hh
          exact hh.2
        cases h
        refine ⟨?_, ?_, h3⟩ <;> (simp only []; split <;> omega)
      · cases h
theorem xGone_rng {d : Str} {lo hi z : Int} {b : Bool} {p : Int × Int} (h : xGone d lo hi z b = some p) (R : Rng lo hi z) : 0 ≤ p.1 ∧ p.1 ≤ p.2 ∧ p.2 ≤ 255 := by
  unfold xGone at h
  split at h
  · exact xWhere_rng h R
  · split at h
    · exact xWhere_rng h R
    · cases h; exact ⟨R.l0, R.lh, R.h255⟩
theorem ifPart_len (d : Str) (lo hi z : Int) (w : Nat × Bool × Int) : (ifPart d lo hi z w).length ≤ 1 := by
  unfold ifPart
  split <;> simp
theorem cm_tup {K : PySem.W.Frag} {H : Hp} {v : V} {c : Cm} (h : CmV H v c) : TupI K H v [(c.r : Int), c.lo, c.hi, c.z, c.ls, c.ms] := by
  obtain ⟨b, rfl, hb⟩ := h
  exact ⟨b, rfl, SqT.of hb⟩
structure RowOk (Pr : Pg) (S : List Sg) (i : Nat) (r : Rw) : Prop where
  at_ : Pr[i]? = some r
  good : r.d ∈ GOOD
  mark : r.d ∈ MARKD → MarkOk Pr r
  ifs : inS r.d IFS = true → ∃ n, S[i]? = some (.one n) ∧ 0 ≤ n ∧ n ≤ 1
  ats : eqS r.d "at" = true → ∃ l, S[i]? = some (.all l) ∧ l.length = 256 ∧ ∀ x ∈ l, 0 ≤ x ∧ x ≤ 1
  setx : eqS r.d "setx" = true → ∃ x, r.v = .int x ∧ 0 ≤ x ∧ x ≤ 255
/-- what a list of comes is told to be -/
def CmsK (Q : VK) (H : Hp) (C : List Cm) : Prop := ∀ H' p vs L, Same H H' → H p = none → H' p = some (.lst vs) → Paired (CmV H') vs L → L.length ≤ 2 → (∀ c, c ∈ L ↔ c ∈ C) → Q (.ref p) H'
theorem good_mark {d : Str} (h : inS d IFS = true) : d ∈ MARKD := by
  have : ∀ e ∈ IFS, e ∈ MARKD := by decide +kernel
  refine this d ?_
  unfold inS inV at h
  rw [List.any_map] at h
  obtain ⟨x, hx, e⟩ := List.any_eq_true.mp h
  have e2 : x = d := beq_iff_eq.mp (show (x == d) = true from e)
  exact e2 ▸ hx
section
variable {P : Program} {w : World} {K : PySem.W.Frag} {mg : Str → Option Value} {base : Heap}
def sp_if_comes (K : PySem.W.Frag) : Sp := fun vs H Q _ => ∃ a s Pr S i x lo hi z r, vs = [.ref a, .ref s, .int (i : Nat), .ref x] ∧ PgAt K H a Pr ∧ Pr.length ≤ 1000 ∧ SgsAt K H s S ∧ SqT K H x [.int lo, .int hi, .int z] ∧ Rng lo hi z ∧ RowOk Pr S i r ∧ inS r.d IFS = true ∧ CmsK Q H (comesOf Pr S i lo hi z)
abbrev N_if_comes : List Str := ["program", "signs", "row", "x", "mark", "deed", "value", "low", "high", "zero", "ways", "found", "other", "is_gone", "beats", "some"]
theorem sc_if_comes : FnScope N_if_comes ["program", "signs", "row", "x"] (defScope s_if_comes) := ⟨rfl, rfl, rfl, by decide +kernel, rfl, by decide +kernel, by decide +kernel⟩
theorem ok_if_comes (T : TX K mg) : Ok P w K mg base 3 "if_comes" ["program", "signs", "row", "x"] (sp_if_comes K) := by
  refine T.d_if_comes.ok sc_if_comes (fun _ _ _ _ _ _ us hl => match us, hl with | [_, _, _, _], _ => rfl) (fun vs H Q E h => ?_) (fun f cdv A outer s H vs Q E hr h => ?_)
  · obtain ⟨_, _, _, _, _, _, _, _, _, _, rfl, _⟩ := h; rfl
  · obtain ⟨a, sg, Pr, S, i, x, lo, hi, z, r, rfl, hP, hl, hSg, hx, R, RO, hif, k⟩ := h
    obtain ⟨n, hS, n0, n1⟩ := RO.ifs hif
    obtain ⟨rs, b, hpr, hb, hrow⟩ := hP.at RO.at_
    obtain ⟨zm, hz, hzl⟩ := RO.mark (good_mark hif)
    have ht : tgt Pr r = ixOf Pr zm := by unfold tgt; rw [hz]; rfl
    have htl : tgt Pr r < Pr.length := by rw [ht]; exact hzl
    obtain ⟨svs, hsg1, hsg2⟩ := id hSg
    obtain ⟨sv, hsv1, hsv2⟩ := paired_atR hsg2 hS
    obtain rfl : sv = .int n := by
      cases sv <;> first | (have e : _ = n := hsv2; rw [e]) | exact hsv2.elim
    rw [comes_if RO.at_ hif hS] at k
    have hil : i < Pr.length := (List.getElem?_eq_some_iff.mp RO.at_).1
    refine ⟨_, (pss_cons (ps_asg (pe_ix ix_tup (pv 0) (pv 2) (fun _ _ => rfl)) (pg_tup rfl (pgs_cons (pg_name (i := 4) sc_if_comes.nd rfl (Or.inl rfl)) (pgs_cons (pg_name (i := 5) sc_if_comes.nd rfl (Or.inl rfl)) (pgs_cons (pg_name (i := 6) sc_if_comes.nd rfl (Or.inl rfl)) pgs_nil)))))
        (pss_cons (ps_asg (pv 3) (pg_tup rfl (pgs_cons (pg_name (i := 7) sc_if_comes.nd rfl (Or.inl rfl)) (pgs_cons (pg_name (i := 8) sc_if_comes.nd rfl (Or.inl rfl)) (pgs_cons (pg_name (i := 9) sc_if_comes.nd rfl (Or.inl rfl)) pgs_nil)))))
        (pss_cons (ps_set (i := 10) sc_if_comes.nd rfl (Or.inl rfl) (pe_lst (pa_cons (pe_tup (pa_cons (pe_op op_add (pv 2) pe_int) (pa_cons pe_bl (pa_cons pe_int pa_nil)))) (pa_cons (pe_tup (pa_cons (pcall (ok_row_of T) (hr.mono (by decide)) rfl (pa_cons (pv 0) (pa_cons (pv 6) pa_nil))) (pa_cons pe_bl (pa_cons (pe_op op_add pe_int (pe_ix ix_tup (pv 1) (pv 2) (fun _ _ => rfl))) pa_nil)))) pa_nil))))
        (pss_cons (ps_set (i := 11) sc_if_comes.nd rfl (Or.inl rfl) (pe_lst pa_nil))
        (pss_cons (ps_for PassesOwn.never rfl (pi_list (pv 10)) (pg_tup rfl (pgs_cons (pg_name (i := 12) sc_if_comes.nd rfl (Or.inl rfl)) (pgs_cons (pg_name (i := 13) sc_if_comes.nd rfl (Or.inl rfl)) (pgs_cons (pg_name (i := 14) sc_if_comes.nd rfl (Or.inl rfl)) pgs_nil)))) (pss_cons (ps_set (i := 15) sc_if_comes.nd rfl (Or.inl rfl) (pcall (ok_x_gone T) (hr.mono (by decide)) rfl (pa_cons (pv 5) (pa_cons (pv 7) (pa_cons (pv 8) (pa_cons (pv 9) (pa_cons (pv 13) pa_nil)))))))
          (pss_one (ps_if (pt_cmp (pc_notN (pv 15))) (pss_one (ps_expr (pe_bm PySem.F.plainAttrs_list PySem.F.slot_list_append PySem.F.type_list_append mt_append (pv 11) (pa_cons (pe_tup (pa_cons (pv 12) (pa_cons (pe_ix ix_tup (pv 15) pe_int (fun _ _ => rfl)) (pa_cons (pe_ix ix_tup (pv 15) pe_int (fun _ _ => rfl)) (pa_cons (pv 9) (pa_cons (pv 14) (pa_cons (pv 14) pa_nil))))))) pa_nil)))) pss_nil))))
        (pss_one (ps_ret (pe_callB (cr_sortT (d := 6) (B := 2000) (by decide)) rfl T.n_sorted (by decide +kernel) (pa_cons (pv 11) pa_nil))))))))), ?_⟩
    refine ⟨_, rfl, _, rfl, a, _, _, _, rfl, rfl, hpr, nat_at hb, b, _, rfl, hrow, rfl, _, _, rfl, _, _, rfl, _, _, rfl, rfl, ?_⟩
    refine ⟨_, rfl, x, _, rfl, hx, rfl, _, _, rfl, _, _, rfl, _, _, rfl, rfl, ?_⟩
    refine ⟨_, rfl, _, _, rfl, rfl, (by show 3 ≤ sizeLine; decide), fun w1 hw1 => ?_⟩
    refine ⟨_, rfl, _, rfl, a, Pr, zm, (by rw [hz]), hP.same (same_new hw1), hzl, hl, fun H1 s1 => ?_⟩
    have s1' : Same H H1 := (same_new hw1).trans s1
    refine ⟨_, rfl, _, rfl, sg, _, _, _, rfl, rfl, same_sqT s1' hsg1, nat_at hsv1, _, _, rfl, rfl, (by show 3 ≤ sizeLine; decide), fun w2 hw2 => ?_⟩
    refine ⟨(by show 2 ≤ sizeLine; decide), fun wl hwl => ⟨(Nat.zero_le _), fun fd hfd => ?_⟩⟩
    rw [← ht] at *
    generalize hH2 : upd (upd H1 w2 (.tup [.int (tgt Pr r : Nat), .bl true, .int (3 + n)])) wl (.lst [.ref w1, .ref w2]) = H2 at *
    have s12 : Same H1 H2 := by rw [← hH2]; exact (same_new hw2).trans (same_new hwl)
    have s02 : Same H H2 := s1'.trans s12
    have aw1 : H2 w1 = some (.tup (wayV (i + 1, false, 2))) := s12 _ _ (s1 _ _ upd_same)
    have aw2 : H2 w2 = some (.tup (wayV (tgt Pr r, true, 3 + n))) := by rw [← hH2]; exact same_new hwl _ _ upd_same
    have awl : H2 wl = some (.lst [.ref w1, .ref w2]) := by rw [← hH2]; exact upd_same
    have hw : ∀ (j : Nat) (v : V), ([V.ref w1, V.ref w2] : List V)[j]? = some v → ∃ wj q, (ifWays Pr r i n)[j]? = some wj ∧ v = .ref q ∧ H2 q = some (.tup (wayV wj)) := fun j v e => by
      match j, e with
      | 0, e => cases e; exact ⟨_, _, rfl, rfl, aw1⟩
      | 1, e => cases e; exact ⟨_, _, rfl, rfl, aw2⟩
      | j + 2, e => simp at e
    refine ⟨_, rfl, wl, rfl, ⟨_, SqL.of (same_new hfd _ _ awl)⟩, for_list (K := K) (a := wl) (xs := [.ref w1, .ref w2]) (fun j σ H3 => ∃ o1 o2 o3 o4 fs L, σ = [some (.ref a), some (.ref sg), some (.int (i : Nat)), some (.ref x), some (.str r.m), some (.str r.d), some r.v, some (.int lo), some (.int hi), some (.int z), some (.ref wl), some (.ref fd), o1, o2, o3, o4] ∧
        Same H2 H3 ∧ H3 fd = some (.lst fs) ∧ Paired (CmV H3) fs L ∧ L = ((ifWays Pr r i n).take j).flatMap (ifPart r.d lo hi z) ∧ L.length ≤ j)
      ⟨none, none, none, none, [], [], rfl, same_new hfd, upd_same, .nil, rfl, Nat.le_refl _⟩ (fun j σ H3 _ ⟨_, _, _, _, _, _, _, sm, _⟩ => SqL.of (sm _ _ awl)) ?_ ?_⟩
    · rintro j v σ H3 hj ⟨o1, o2, o3, o4, fs, L, rfl, sm, hfd3, hpL, rfl, hLl⟩
      obtain ⟨⟨wr, wg, wb⟩, q, hwj, rfl, hq⟩ := hw j v hj
      have hj2 : j < 2 := (List.getElem?_eq_some_iff.mp hj).1
      refine ⟨q, _, rfl, SqT.of (sm _ _ hq), rfl, _, _, rfl, _, _, rfl, _, _, rfl, rfl, ?_⟩
      refine ⟨_, rfl, _, rfl, _, rfl, _, rfl, _, rfl, r.d, lo, hi, z, wg, rfl, fun H4 v4 s4 hv4 => ⟨_, rfl, ?_⟩⟩
      have hfd4 : H4 fd = some (.lst fs) := s4 _ _ hfd3
      have step : (ifWays Pr r i n).take (j + 1) = (ifWays Pr r i n).take j ++ [(wr, wg, wb)] := take_snoc hwj
      cases hg : xGone r.d lo hi z wg with
      | none =>
        rw [hg] at hv4
        obtain rfl : v4 = .non := hv4
        refine ⟨_, rfl, iteF ⟨some (.int (wr : Nat)), some (.bl wg), some (.int wb), some .non, fs, _, rfl, sm.trans s4, hfd4, Paired.mapP hpL fun _ _ q => q.sameT (sameT_of s4), ?_, Nat.le_succ_of_le hLl⟩⟩
        rw [step, flatMap_snoc]
        unfold ifPart
        simp only [hg, List.append_nil]
      | some p =>
        obtain ⟨pa, pb⟩ := p
        rw [hg] at hv4
        obtain ⟨t, rfl, ht4⟩ := hv4
        refine ⟨_, rfl, iteT ⟨_, rfl, .inl ⟨rfl, _, SqL.of hfd4⟩, _, rfl, _, rfl, t, _, 0, _, rfl, rfl, SqT.of ht4, nat_at (i := 0) rfl, _, rfl, t, _, 1, _, rfl, rfl, SqT.of ht4, nat_at (i := 1) rfl, _, rfl, _, rfl, _, rfl, (by show 6 ≤ sizeLine; decide), fun u hu => ?_⟩⟩
        have hfd5 : (upd H4 u (.tup (cmV ⟨wr, pa, pb, z, wb, wb⟩))) fd = some (.lst fs) := same_new hu _ _ hfd4
        have hfl : fs.length = (((ifWays Pr r i n).take j).flatMap (ifPart r.d lo hi z)).length := Paired.length hpL
        refine ⟨fd, fs, _, rfl, rfl, hfd5, small1000 (by omega), ?_⟩
        have sT : SameT H3 (upd (upd H4 u (.tup (cmV ⟨wr, pa, pb, z, wb, wb⟩))) fd (.lst (fs ++ [.ref u]))) := (sameT_of (s4.trans (same_new hu))).trans (sameT_lst hfd5)
        refine ⟨some (.int (wr : Nat)), some (.bl wg), some (.int wb), some (.ref t), fs ++ [.ref u], _, rfl, same_upd hfd (sm.trans (s4.trans (same_new hu))), upd_same, Paired.snoc (Paired.mapP hpL fun _ _ q => q.sameT sT) ⟨u, rfl, (sameT_lst hfd5).tup _ _ upd_same⟩, ?_, by rw [List.length_append]; exact Nat.succ_le_succ hLl⟩
        rw [step, flatMap_snoc]
        congr 1
        unfold ifPart
        simp only [hg]
    · rintro σ H3 ⟨o1, o2, o3, o4, fs, L, rfl, sm, hfd3, hpL, hL, hLl⟩
      have eL : ((ifWays Pr r i n).take ([V.ref w1, V.ref w2] : List V).length) = ifWays Pr r i n := List.take_of_length_le (by show 2 ≤ 2; decide)
      rw [eL] at hL
      have hfl : fs.length = L.length := Paired.length hpL
      have h2 : L.length ≤ 2 := hLl
      have bd : ∀ c ∈ L, TS.Bd 2000 [(c.r : Int), c.lo, c.hi, c.z, c.ls, c.ms] := fun c hc => by
        rw [hL] at hc
        obtain ⟨⟨wr, wg, wb⟩, hw1, hw2⟩ := List.mem_flatMap.mp hc
        have hwr : wr < 2000 ∧ 0 ≤ wb ∧ wb < 2000 := by
          have ht2 := htl
          rcases List.mem_cons.mp hw1 with e | hw1
          · cases e; exact ⟨by omega, by decide, by decide⟩
          · rcases List.mem_cons.mp hw1 with e | hw1
            · cases e; exact ⟨by omega, by omega, by omega⟩
            · cases hw1
        unfold ifPart at hw2
        split at hw2
        · rename_i a' b' hg
          obtain rfl := List.mem_singleton.mp hw2
          obtain ⟨g1, g2, g3⟩ := xGone_rng hg R
          have hz2 := R.z01
          intro m hm
          simp only [List.mem_cons, List.not_mem_nil, or_false] at hm
          simp only at g1 g2 g3
          rcases hm with rfl | rfl | rfl | rfl | rfl | rfl <;> (constructor <;> omega)
        · cases hw2
      refine ⟨_, rfl, fd, fs, rfl, SqL.of hfd3, by omega, fun v hv => ?_, fun ys p hperm _ hp => ?_⟩
      · obtain ⟨j, hj, rfl⟩ := List.mem_iff_getElem.mp hv
        obtain ⟨c, hc1, hc2⟩ := paired_atL hpL (List.getElem?_eq_getElem hj)
        exact ⟨_, cm_tup hc2, rfl, bd c (List.mem_of_getElem? hc1)⟩
      · obtain ⟨L', hp1, hp2⟩ := perm_paired hperm hpL
        refine k _ p ys L' ((s02.trans sm).trans (same_new hp)) ((s02.trans sm).free hp) upd_same (Paired.mapP hp2 fun _ _ q => q.sameT (sameT_of (same_new hp))) (by rw [hp1.length_eq]; exact h2) fun c => ?_
        rw [hp1.mem_iff, hL]
end

theorem CmsK.same {Q : VK} {H H1 : Hp} {C : List Cm} (k : CmsK Q H C) (e : Same H H1) : CmsK Q H1 C := fun H' p vs L s hp => k H' p vs L (e.trans s) (e.free hp)
theorem good_not {d : Str} (h : d ∈ GOOD) : eqS d "getx" = false ∧ eqS d "tox" = false ∧ eqS d "up" = false ∧ eqS d "down" = false ∧ eqS d "data" = false := by
  have : ∀ e ∈ GOOD, eqS e "getx" = false ∧ eqS e "tox" = false ∧ eqS e "up" = false ∧ eqS e "down" = false ∧ eqS e "data" = false := by decide +kernel
  exact this d h
theorem min_cons (n : Int) (ns : List Int) : minL (n :: ns) = ns.foldl min n := rfl
theorem max_cons (n : Int) (ns : List Int) : maxL (n :: ns) = ns.foldl max n := rfl
section
variable {P : Program} {w : World} {K : PySem.W.Frag} {mg : Str → Option Value} {base : Heap}
def sp_comes_of (K : PySem.W.Frag) : Sp := fun vs H Q _ => ∃ a s Pr S i lo hi z r, vs = [.ref a, .ref s, .int (i : Nat), .int lo, .int hi, .int z] ∧ PgAt K H a Pr ∧ Pr.length ≤ 1000 ∧ SgsAt K H s S ∧ Rng lo hi z ∧ RowOk Pr S i r ∧ CmsK Q H (comesOf Pr S i lo hi z)
abbrev N_comes_of : List Str := ["program", "signs", "row", "low", "high", "zero", "mark", "deed", "value", "least", "most", "other", "begin", "end", "flag"]
theorem sc_comes_of : FnScope N_comes_of ["program", "signs", "row", "low", "high", "zero"] (defScope s_comes_of) := ⟨rfl, rfl, rfl, by decide +kernel, rfl, by decide +kernel, by decide +kernel⟩
theorem ok_comes_of (T : TX K mg) : Ok P w K mg base 4 "comes_of" ["program", "signs", "row", "low", "high", "zero"] (sp_comes_of K) := by
  refine T.d_comes_of.ok sc_comes_of (fun _ _ _ _ _ _ us hl => match us, hl with | [_, _, _, _, _, _], _ => rfl) (fun vs H Q E h => ?_) (fun f cdv A outer s H vs Q E hr h => ?_)
  · obtain ⟨_, _, _, _, _, _, _, _, _, rfl, _⟩ := h; rfl
  · obtain ⟨a, sg, Pr, S, i, lo, hi, z, r, rfl, hP, hl, hSg, R, RO, k⟩ := h
    obtain ⟨rs, b, hpr, hb, hrow⟩ := hP.at RO.at_
    obtain ⟨svs, hsg1, hsg2⟩ := id hSg
    refine ⟨_, (pss_cons (ps_asg (pe_ix ix_tup (pv 0) (pv 2) (fun _ _ => rfl)) (pg_tup rfl (pgs_cons (pg_name (i := 6) sc_comes_of.nd rfl (Or.inl rfl)) (pgs_cons (pg_name (i := 7) sc_comes_of.nd rfl (Or.inl rfl)) (pgs_cons (pg_name (i := 8) sc_comes_of.nd rfl (Or.inl rfl)) pgs_nil)))))
        (pss_cons (ps_if (pt_cmpR op_in_seq (pv 7) (pe_tup (pa_cons pe_str (pa_cons pe_str (pa_cons pe_str (pa_cons pe_str pa_nil))))) rfl) (pss_one (ps_ret (pcall (ok_if_comes T) (hr.mono (by decide)) rfl (pa_cons (pv 0) (pa_cons (pv 1) (pa_cons (pv 2) (pa_cons (pe_tup (pa_cons (pv 3) (pa_cons (pv 4) (pa_cons (pv 5) pa_nil)))) pa_nil))))))) pss_nil)
        (pss_cons (ps_set (i := 9) sc_comes_of.nd rfl (Or.inr rfl) (pcall (ok_beat_count T) (hr.mono (by decide)) rfl (pa_cons (pv 7) pa_nil)))
        (pss_cons (ps_set (i := 10) sc_comes_of.nd rfl (Or.inr rfl) (pv 9))
        (pss_cons (ps_set (i := 11) sc_comes_of.nd rfl (Or.inr rfl) (pe_op op_add (pv 2) pe_int))
        (C8.pss_cut (ps_if (pt_cmpR op_eq (pv 7) pe_str (nomark _)) (pss_cons (ps_set (i := 9) sc_comes_of.nd rfl (Or.inr rfl) (pe_op op_add (pv 9) (pe_callB (cr_minT rfl hr.units) rfl T.n_min (by decide +kernel) (pa_cons (pe_slice sl_tupA (pe_ix ix_tup (pv 1) (pv 2) (fun _ _ => rfl)) (po_some (pv 3)) (po_some (pe_op op_add (pv 4) pe_int))) pa_nil))))
          (pss_one (ps_set (i := 10) sc_comes_of.nd rfl (Or.inr rfl) (pe_op op_add (pv 10) (pe_callB (cr_maxT rfl hr.units) rfl T.n_max (by decide +kernel) (pa_cons (pe_slice sl_tupA (pe_ix ix_tup (pv 1) (pv 2) (fun _ _ => rfl)) (po_some (pv 3)) (po_some (pe_op op_add (pv 4) pe_int))) pa_nil)))))) pss_nil)
        (C8.pss_cut (ps_if (pt_cmpR op_eq (pv 7) pe_str (nomark _)) (pss_one (ps_set (i := 11) sc_comes_of.nd rfl (Or.inr rfl) (pcall (ok_row_of T) (hr.mono (by decide)) rfl (pa_cons (pv 0) (pa_cons (pv 8) pa_nil))))) pss_nil)
        (pss_one (ps_ret (pe_lc (own := [("begin", 12), ("end", 13), ("flag", 14)]) (g := gTup K 3 (gCons (gName 12) (gCons (gName 13) (gCons (gName 14) gNil)))) (tt := tYes) (te := tTup (tCons (tVar 11) (tCons (tVar 12) (tCons (tVar 13) (tCons (tVar 14) (tCons (tVar 9) (tCons (tVar 10) tNil))))))) rfl sc_comes_of.nd (pi_list (pcall (ok_x_behind T) (hr.mono (by decide)) rfl (pa_cons (pv 7) (pa_cons (pv 8) (pa_cons (pv 3) (pa_cons (pv 4) (pa_cons (pv 5) pa_nil))))))) (blkOk_by (N := N_comes_of) (sc := defScope s_comes_of) (by decide +kernel)) (fun _ _ _ _ _ => (pg_tup rfl (pgs_cons (pg_name (i := 12) sc_comes_of.nd rfl (Or.inl rfl)) (pgs_cons (pg_name (i := 13) sc_comes_of.nd rfl (Or.inl rfl)) (pgs_cons (pg_name (i := 14) sc_comes_of.nd rfl (Or.inl rfl)) pgs_nil))))) (fun _ _ _ _ _ => pts_nil) (fun _ _ _ _ _ => (pe_tup (pa_cons (pv 11) (pa_cons (pv 12) (pa_cons (pv 13) (pa_cons (pv 14) (pa_cons (pv 9) (pa_cons (pv 10) pa_nil)))))))))))))))))), ?_⟩
    refine ⟨_, rfl, _, rfl, a, _, _, _, rfl, rfl, hpr, nat_at hb, b, _, rfl, hrow, rfl, _, _, rfl, _, _, rfl, _, _, rfl, rfl, ?_⟩
    refine ⟨_, rfl, (by show 4 ≤ sizeLine; decide), fun tp htp => ⟨tp, _, rfl, .inr (SqT.of upd_same), rfl, rfl, _, rfl, ite_b (fun e => ?_) fun e => ?_⟩⟩
    · refine ⟨_, rfl, _, rfl, _, rfl, _, rfl, _, rfl, _, rfl, (by show 3 ≤ sizeLine; decide), fun x hx => ?_⟩
      have s1 := (same_new (o := .tup [.str "ifz", .str "ifn", .str "ifc", .str "ifd"]) htp).trans (same_new (o := .tup [.int lo, .int hi, .int z]) hx)
      exact ⟨a, sg, Pr, S, i, x, lo, hi, z, r, rfl, hP.same s1, hl, hSg.same s1, SqT.of upd_same, R, RO, e, k.same s1⟩
    · have hif : ¬ inS r.d IFS = true := inS_f e
      rw [comes_other RO.at_ hif] at k
      have s1 := (same_new (o := .tup [.str "ifz", .str "ifn", .str "ifc", .str "ifd"]) htp)
      generalize hH1 : upd H tp (.tup [.str "ifz", .str "ifn", .str "ifc", .str "ifd"]) = H1 at *
      refine ⟨_, rfl, r.d, rfl, _, rfl, _, rfl, _, _, rfl, rfl, ?_⟩
      refine ⟨fun σ' H' => ∃ ls ms, σ' = [some (.ref a), some (.ref sg), some (.int (i : Nat)), some (.int lo), some (.int hi), some (.int z), some (.str r.m), some (.str r.d), some r.v, some (.int ls), some (.int ms), some (.int ((i : Int) + 1)), none, none, none] ∧ Same H H' ∧
        ls = beatC r.d + (if eqS r.d "at" = true then minL (cutI (sAll S[i]?) lo hi) else 0) ∧ ms = beatC r.d + (if eqS r.d "at" = true then maxL (cutI (sAll S[i]?) lo hi) else 0), ⟨_, rfl, rfl, _, rfl, ite_b (fun e2 => ?_) fun e2 => ?_⟩, ?_⟩
      · obtain ⟨l, hS, hl256, hl01⟩ := RO.ats e2
        obtain ⟨sv, hsv1, hsv2⟩ := paired_atR hsg2 hS
        obtain ⟨q, rfl⟩ : ∃ q, sv = .ref q := by
          cases sv <;> first | exact ⟨_, rfl⟩ | exact hsv2.elim
        have hq : SqT K H q (l.map V.int) := hsv2
        have hlen : hi < (l.map V.int).length := by rw [List.length_map, hl256]; have := R.h255; omega
        obtain ⟨m0, ms0, hcut⟩ := cutI_cons (l := l) R.l0 R.lh (by rw [hl256]; have := R.h255; omega)
        have hcv : cutV (l.map V.int) (some lo) (some (hi + 1)) = (m0 :: ms0).map V.int := by rw [cutV_nat R.l0 R.lh hlen, cutI_map, hcut]
        refine ⟨_, rfl, _, rfl, _, rfl, sg, _, _, _, rfl, rfl, same_sqT s1 hsg1, nat_at hsv1, _, rfl, _, rfl, _, rfl, _, _, rfl, rfl, _, rfl, slA_of (same_sqT s1 hq) fun p H2 s2 hc => ?_⟩
        rw [hcv] at hc
        refine ⟨p, m0, ms0, rfl, hc, _, _, rfl, rfl, ?_⟩
        refine ⟨_, rfl, _, rfl, _, rfl, sg, _, _, _, rfl, rfl, same_sqT (s1.trans s2) hsg1, nat_at hsv1, _, rfl, _, rfl, _, rfl, _, _, rfl, rfl, _, rfl, slA_of (same_sqT (s1.trans s2) hq) fun p3 H3 s3 hc3 => ?_⟩
        rw [hcv] at hc3
        refine ⟨p3, m0, ms0, rfl, hc3, _, _, rfl, rfl, _, _, rfl, s1.trans (s2.trans s3), ?_, ?_⟩
        · rw [if_pos (show eqS r.d "at" = true from e2), hS]
          show _ = beatC r.d + minL (cutI l lo hi)
          rw [hcut]
          rfl
        · rw [if_pos (show eqS r.d "at" = true from e2), hS]
          show _ = beatC r.d + maxL (cutI l lo hi)
          rw [hcut]
          rfl
      · exact ⟨_, _, rfl, s1, by rw [if_neg (eqS_f e2), Int.add_zero], by rw [if_neg (eqS_f e2), Int.add_zero]⟩
      · rintro σ' H' ⟨ls, ms, rfl, s2, hls, hms⟩
        refine ⟨fun σ' H3 => ∃ o : Nat, σ' = [some (.ref a), some (.ref sg), some (.int (i : Nat)), some (.int lo), some (.int hi), some (.int z), some (.str r.m), some (.str r.d), some r.v, some (.int ls), some (.int ms), some (.int (o : Nat)), none, none, none] ∧ Same H H3 ∧
          o = if eqS r.d "go" = true then tgt Pr r else i + 1, ⟨_, rfl, rfl, _, rfl, ite_b (fun e2 => ?_) fun e2 => ?_⟩, ?_⟩
        · obtain ⟨zm, hz, hzl⟩ := RO.mark (by rw [eqS_iff.mp e2]; decide +kernel)
          have ht : tgt Pr r = ixOf Pr zm := by unfold tgt; rw [hz]; rfl
          exact ⟨_, rfl, _, rfl, a, Pr, zm, (by rw [hz]), hP.same s2, hzl, hl, fun H4 s4 => ⟨ixOf Pr zm, rfl, s2.trans s4, by rw [if_pos (show eqS r.d "go" = true from e2), ht]⟩⟩
        · exact ⟨i + 1, rfl, s2, by rw [if_neg (eqS_f e2)]⟩
        · rintro σ' H3 ⟨o, rfl, s3, ho⟩
          obtain ⟨g1, g2, g3, g4, _⟩ := good_not RO.good
          refine ⟨_, rfl, _, rfl, _, rfl, _, rfl, _, rfl, r, lo, hi, z, rfl, ⟨g1, g2, g3, g4⟩, fun e2 => let ⟨x, h1, _⟩ := RO.setx e2; ⟨x, h1⟩, R.z01, fun H4 pl bl s4 hpl hbl => ?_⟩
          refine ⟨pl, rfl, ⟨_, SqL.of hpl⟩, fun D hD => lc_rel (walk_list (K := K) (a := pl) (xs := [.ref bl])) (fun _ y H5 => CmV H5 y ⟨o, (xBehind r lo hi z).1, (xBehind r lo hi z).2.1, (xBehind r lo hi z).2.2, ls, ms⟩) (fun _ _ _ _ h e => h.sameT e) (by show 1 ≤ 1000; decide) hD (fun H' e => e.seq (SqL.of hpl)) hY_at ?_ ?_⟩
          · rintro j v H5 H6 C C0 hj sm ⟨rfl, hv⟩ hC
            obtain rfl : v = .ref bl := by
              match j, hv with
              | 0, hv => exact (Option.some.inj hv).symm
              | j + 1, hv => simp at hv
            exact ⟨bl, _, rfl, SqT.of (sm _ _ hbl), rfl, _, _, rfl, _, _, rfl, _, _, rfl, rfl, rfl, yesT ⟨_, rfl, _, rfl, _, rfl, _, rfl, _, rfl, _, rfl, (by show 6 ≤ sizeLine; decide), fun u hu => hC _ _ (same_new hu) ⟨u, rfl, upd_same⟩⟩⟩
          · intro H5 ys sm hD' hn hy
            obtain ⟨y, rfl⟩ : ∃ y, ys = [y] := by
              match ys, hn with
              | [y], _ => exact ⟨y, rfl⟩
            refine k H5 D [y] [⟨o, (xBehind r lo hi z).1, (xBehind r lo hi z).2.1, (xBehind r lo hi z).2.2, ls, ms⟩] ((s3.trans s4).trans sm) ((s3.trans s4).free hD) hD' (.cons (hy 0 y rfl) .nil) (by show 1 ≤ 2; decide) fun c => ?_
            rw [ho, hls, hms]
/-- a key: a row's number, x from lo to hi, the zero flag -/
structure Ky where
  r : Nat
  lo : Int
  hi : Int
  z : Int
  deriving DecidableEq
def kyL (k : Ky) : List Int := [(k.r : Nat), k.lo, k.hi, k.z]
def Cm.key (c : Cm) : Ky := ⟨c.r, c.lo, c.hi, c.z⟩
/-- (key, least, most), the key's own tuple at kb -/
def KbV (H : Hp) (v : V) (c : Cm) : Prop := ∃ b kb, v = .ref b ∧ H b = some (.tup [.ref kb, .int c.ls, .int c.ms]) ∧ H kb = some (.tup ((kyL c.key).map V.int))
theorem KbV.sameT {H H' : Hp} {v : V} {c : Cm} (h : KbV H v c) (e : SameT H H') : KbV H' v c := by
  obtain ⟨b, kb, h1, h2, h3⟩ := h
  exact ⟨b, kb, h1, e.tup _ _ h2, e.tup _ _ h3⟩
def sp_keys_behind (K : PySem.W.Frag) : Sp := fun vs H Q _ => ∃ a s Pr S k b r, vs = [.ref a, .ref s, .ref b] ∧ PgAt K H a Pr ∧ Pr.length ≤ 1000 ∧ SgsAt K H s S ∧ SqT K H b ((kyL k).map V.int) ∧ Rng k.lo k.hi k.z ∧ RowOk Pr S k.r r ∧
  ∀ H' p vs L, Same H H' → H p = none → H' p = some (.lst vs) → Paired (KbV H') vs L → L.length ≤ 2 → (∀ c, c ∈ L ↔ c ∈ comesOf Pr S k.r k.lo k.hi k.z) → Q (.ref p) H'
abbrev N_keys_behind : List Str := ["program", "signs", "key", "row", "low", "high", "zero", "comes", "other", "begin", "end", "flag", "least", "most"]
theorem sc_keys_behind : FnScope N_keys_behind ["program", "signs", "key"] (defScope s_keys_behind) := ⟨rfl, rfl, rfl, by decide +kernel, rfl, by decide +kernel, by decide +kernel⟩
theorem ok_keys_behind (T : TX K mg) : Ok P w K mg base 5 "keys_behind" ["program", "signs", "key"] (sp_keys_behind K) := by
  refine T.d_keys_behind.ok sc_keys_behind (fun _ _ _ _ _ _ us hl => match us, hl with | [_, _, _], _ => rfl) (fun vs H Q E h => ?_) (fun f cdv A outer s H vs Q E hr h => ?_)
  · obtain ⟨_, _, _, _, _, _, _, rfl, _⟩ := h; rfl
  · obtain ⟨a, sg, Pr, S, ky, b, r, rfl, hP, hl, hSg, hb, R, RO, k⟩ := h
    refine ⟨_, (pss_cons (ps_asg (pv 2) (pg_tup rfl (pgs_cons (pg_name (i := 3) sc_keys_behind.nd rfl (Or.inl rfl)) (pgs_cons (pg_name (i := 4) sc_keys_behind.nd rfl (Or.inl rfl)) (pgs_cons (pg_name (i := 5) sc_keys_behind.nd rfl (Or.inl rfl)) (pgs_cons (pg_name (i := 6) sc_keys_behind.nd rfl (Or.inl rfl)) pgs_nil))))))
        (pss_cons (ps_set (i := 7) sc_keys_behind.nd rfl (Or.inl rfl) (pcall (ok_comes_of T) (hr.mono (by decide)) rfl (pa_cons (pv 0) (pa_cons (pv 1) (pa_cons (pv 3) (pa_cons (pv 4) (pa_cons (pv 5) (pa_cons (pv 6) pa_nil))))))))
        (pss_one (ps_ret (pe_lc (own := [("other", 8), ("begin", 9), ("end", 10), ("flag", 11), ("least", 12), ("most", 13)]) (g := gTup K 6 (gCons (gName 8) (gCons (gName 9) (gCons (gName 10) (gCons (gName 11) (gCons (gName 12) (gCons (gName 13) gNil))))))) (tt := tYes) (te := tTup (tCons (tTup (tCons (tVar 8) (tCons (tVar 9) (tCons (tVar 10) (tCons (tVar 11) tNil))))) (tCons (tVar 12) (tCons (tVar 13) tNil)))) rfl sc_keys_behind.nd (pi_list (pv 7)) (blkOk_by (N := N_keys_behind) (sc := defScope s_keys_behind) (by decide +kernel)) (fun _ _ _ _ _ => (pg_tup rfl (pgs_cons (pg_name (i := 8) sc_keys_behind.nd rfl (Or.inl rfl)) (pgs_cons (pg_name (i := 9) sc_keys_behind.nd rfl (Or.inl rfl)) (pgs_cons (pg_name (i := 10) sc_keys_behind.nd rfl (Or.inl rfl)) (pgs_cons (pg_name (i := 11) sc_keys_behind.nd rfl (Or.inl rfl)) (pgs_cons (pg_name (i := 12) sc_keys_behind.nd rfl (Or.inl rfl)) (pgs_cons (pg_name (i := 13) sc_keys_behind.nd rfl (Or.inl rfl)) pgs_nil)))))))) (fun _ _ _ _ _ => pts_nil) (fun _ _ _ _ _ => (pe_tup (pa_cons (pe_tup (pa_cons (pv 8) (pa_cons (pv 9) (pa_cons (pv 10) (pa_cons (pv 11) pa_nil))))) (pa_cons (pv 12) (pa_cons (pv 13) pa_nil)))))))))), ?_⟩
    refine ⟨_, rfl, b, _, rfl, hb, rfl, _, _, rfl, _, _, rfl, _, _, rfl, _, _, rfl, rfl, ?_⟩
    refine ⟨_, rfl, _, rfl, _, rfl, _, rfl, _, rfl, _, rfl, a, sg, Pr, S, ky.r, ky.lo, ky.hi, ky.z, r, rfl, hP, hl, hSg, R, RO, fun H1 pl vs L s1 hpn hpl hvs hL2 hmem => ?_⟩
    have hvl : vs.length = L.length := Paired.length hvs
    refine ⟨_, rfl, pl, rfl, ⟨_, SqL.of hpl⟩, fun D hD => lc_rel (walk_list (K := K) (a := pl) (xs := vs)) (fun j y H2 => ∀ c, L[j]? = some c → KbV H2 y c) (fun _ _ _ _ h e c hc => (h c hc).sameT e) (by omega) hD (fun H' e => e.seq (SqL.of hpl)) hY_at ?_ ?_⟩
    · rintro j v H2 H3 C C0 hj sm ⟨rfl, hv⟩ hC
      obtain ⟨c, hc1, u, rfl, hu⟩ := paired_atL hvs hv
      have hw : wipe ([some (.ref a), some (.ref sg), some (.ref b), some (.int (ky.r : Nat)), some (.int ky.lo), some (.int ky.hi), some (.int ky.z), some (.ref pl), none, none, none, none, none, none] : L2.St) [8, 9, 10, 11, 12, 13] = [some (.ref a), some (.ref sg), some (.ref b), some (.int (ky.r : Nat)), some (.int ky.lo), some (.int ky.hi), some (.int ky.z), some (.ref pl), none, none, none, none, none, none] := rfl
      show gTup K 6 _ _ (wipe ([some (.ref a), some (.ref sg), some (.ref b), some (.int (ky.r : Nat)), some (.int ky.lo), some (.int ky.hi), some (.int ky.z), some (.ref pl), none, none, none, none, none, none] : L2.St) [8, 9, 10, 11, 12, 13]) H3 fun σ2 _ => wipe σ2 [8, 9, 10, 11, 12, 13] = wipe ([some (.ref a), some (.ref sg), some (.ref b), some (.int (ky.r : Nat)), some (.int ky.lo), some (.int ky.hi), some (.int ky.z), some (.ref pl), none, none, none, none, none, none] : L2.St) [8, 9, 10, 11, 12, 13] ∧ _
      rw [hw]
      refine ⟨u, _, rfl, SqT.of (sm _ _ hu), rfl, _, _, rfl, _, _, rfl, _, _, rfl, _, _, rfl, _, _, rfl, _, _, rfl, rfl, ?_⟩
      show wipe ([some (.ref a), some (.ref sg), some (.ref b), some (.int (ky.r : Nat)), some (.int ky.lo), some (.int ky.hi), some (.int ky.z), some (.ref pl), some (.int (c.r : Nat)), some (.int c.lo), some (.int c.hi), some (.int c.z), some (.int c.ls), some (.int c.ms)] : L2.St) [8, 9, 10, 11, 12, 13] = _ ∧ tYes ([some (.ref a), some (.ref sg), some (.ref b), some (.int (ky.r : Nat)), some (.int ky.lo), some (.int ky.hi), some (.int ky.z), some (.ref pl), some (.int (c.r : Nat)), some (.int c.lo), some (.int c.hi), some (.int c.z), some (.int c.ls), some (.int c.ms)] : L2.St) H3 _
      refine ⟨rfl, yesT ?_⟩
      refine ⟨_, rfl, _, rfl, _, rfl, _, rfl, (by show 4 ≤ sizeLine; decide), fun kb hkb => ⟨_, rfl, _, rfl, (by show 3 ≤ sizeLine; decide), fun t ht => hC _ _ ((same_new hkb).trans (same_new ht)) fun c' hc' => ?_⟩⟩
      rw [hc1] at hc'
      cases hc'
      exact ⟨t, kb, rfl, upd_same, same_new ht _ _ upd_same⟩
    · intro H2 ys sm hD' hn hy
      exact k H2 D ys L (s1.trans sm) (s1.free hD) hD' (paired_of (hn.trans hvl) fun j y c h1 h2 => hy j y h1 c h2) hL2 hmem
end

/-! ### lists of keys with what is told of them -/
section
variable {α : Type}
def lookC (C : List (Ky × α)) (k : Ky) : Option α := (C.find? fun p => decide (p.1 = k)).map (·.2)
def setC (C : List (Ky × α)) (k : Ky) (c : α) : List (Ky × α) := if (lookC C k).isSome then C.map (fun p => if p.1 = k then (p.1, c) else p) else C ++ [(k, c)]
theorem look_nil (k : Ky) : lookC ([] : List (Ky × α)) k = none := rfl
theorem look_cons (p : Ky × α) (C : List (Ky × α)) (k : Ky) : lookC (p :: C) k = if p.1 = k then some p.2 else lookC C k := by
  unfold lookC
  rw [List.find?_cons]
  by_cases h : p.1 = k
  · rw [if_pos h, decide_eq_true h]; rfl
  · rw [if_neg h, decide_eq_false h]
theorem look_map (C : List (Ky × α)) (k j : Ky) (c : α) : lookC (C.map fun p => if p.1 = k then (p.1, c) else p) j = if j = k then (lookC C k).map (fun _ => c) else lookC C j := by
  induction C with
  | nil => by_cases h : j = k <;> simp [look_nil, h]
  | cons p C ih =>
    rw [List.map_cons, look_cons, look_cons, look_cons, ih]
    by_cases h : p.1 = k
    · simp only [h, if_true]
      by_cases h2 : j = k
      · subst h2; simp
      · have h3 : ¬ k = j := fun e => h2 e.symm
        simp only [if_neg h2, if_neg h3]
    · rw [if_neg h, if_neg h]
      by_cases h2 : j = k
      · subst h2; rw [if_neg h, if_pos rfl, if_pos rfl]
      · simp only [if_neg h2]
theorem look_snoc (C : List (Ky × α)) (k j : Ky) (c : α) (h : lookC C k = none) : lookC (C ++ [(k, c)]) j = if j = k then some c else lookC C j := by
  induction C with
  | nil =>
    show lookC [(k, c)] j = _
    rw [look_cons]
    by_cases h2 : j = k
    · rw [if_pos h2.symm, if_pos h2]
    · rw [if_neg (fun e => h2 e.symm), if_neg h2]
  | cons p C ih =>
    rw [look_cons] at h
    have hp : ¬ p.1 = k := fun e => by rw [if_pos e] at h; cases h
    rw [if_neg hp] at h
    rw [List.cons_append, look_cons, look_cons, ih h]
    by_cases h2 : j = k
    · subst h2; rw [if_neg hp, if_pos rfl, if_pos rfl]
    · rw [if_neg h2, if_neg h2]
theorem look_set (C : List (Ky × α)) (k j : Ky) (c : α) : lookC (setC C k c) j = if j = k then some c else lookC C j := by
  unfold setC
  cases e : lookC C k with
  | none => rw [if_neg (by simp), look_snoc C k j c e]
  | some d =>
    rw [if_pos (by simp), look_map]
    by_cases h : j = k
    · rw [if_pos h, if_pos h, e]; rfl
    · rw [if_neg h, if_neg h]
theorem look_mem {C : List (Ky × α)} {k : Ky} {c : α} (h : lookC C k = some c) : (k, c) ∈ C := by
  induction C with
  | nil => cases h
  | cons p C ih =>
    rw [look_cons] at h
    by_cases e : p.1 = k
    · rw [if_pos e] at h
      cases h
      exact List.mem_cons.mpr (.inl (by rw [← e]))
    · rw [if_neg e] at h
      exact List.mem_cons_of_mem _ (ih h)
theorem mem_look {C : List (Ky × α)} {k : Ky} {c : α} (h : (k, c) ∈ C) (nd : (C.map (·.1)).Nodup) : lookC C k = some c := by
  induction C with
  | nil => cases h
  | cons p C ih =>
    obtain ⟨n1, n2⟩ := List.nodup_cons.mp (show (p.1 :: C.map (·.1)).Nodup from nd)
    rw [look_cons]
    rcases List.mem_cons.mp h with e | h
    · subst e; rw [if_pos rfl]
    · rw [if_neg (fun e => n1 (List.mem_map.mpr ⟨_, h, e.symm⟩))]
      exact ih h n2
theorem set_mem {C : List (Ky × α)} {k : Ky} {c : α} {p : Ky × α} (h : p ∈ setC C k c) : p ∈ C ∨ p = (k, c) := by
  unfold setC at h
  split at h
  · obtain ⟨q, hq, e⟩ := List.mem_map.mp h
    by_cases h2 : q.1 = k
    · rw [if_pos h2] at e; right; rw [← e, h2]
    · rw [if_neg h2] at e; left; rw [← e]; exact hq
  · rcases List.mem_append.mp h with h | h
    · exact .inl h
    · exact .inr (List.mem_singleton.mp h)
theorem look_none {C : List (Ky × α)} {k : Ky} (h : lookC C k = none) : k ∉ C.map (·.1) := by
  induction C with
  | nil => simp
  | cons p C ih =>
    rw [look_cons] at h
    by_cases e : p.1 = k
    · rw [if_pos e] at h; cases h
    · rw [if_neg e] at h
      intro m
      rcases List.mem_cons.mp (show k ∈ p.1 :: C.map (·.1) from m) with m | m
      · exact e m.symm
      · exact ih h m
theorem set_nodup {C : List (Ky × α)} {k : Ky} {c : α} (nd : (C.map (·.1)).Nodup) : ((setC C k c).map (·.1)).Nodup := by
  unfold setC
  cases e : lookC C k with
  | none =>
    rw [if_neg (by simp), List.map_append]
    refine List.nodup_append.mpr ⟨nd, by simp, fun a ha b hb => ?_⟩
    have hb : b = k := by simpa using hb
    rw [hb]
    exact fun z => look_none e (z ▸ ha)
  | some d =>
    rw [if_pos (by simp), List.map_map]
    have : ((fun p : Ky × α => p.1) ∘ fun p : Ky × α => if p.1 = k then (p.1, c) else p) = fun p => p.1 := by
      funext p
      show (if p.1 = k then (p.1, c) else p).1 = p.1
      split <;> rfl
    rw [this]
    exact nd
theorem set_len {C : List (Ky × α)} {k : Ky} {c : α} : (setC C k c).length ≤ C.length + 1 := by
  unfold setC
  split
  · rw [List.length_map]; omega
  · rw [List.length_append]; exact Nat.le_refl _
end
/-! ### sums over a list of keys -/
def tot (U : List Ky) (f : Ky → Nat) : Nat := (U.map f).sum
theorem tot_le {f g : Ky → Nat} : ∀ {U : List Ky}, (∀ u ∈ U, f u ≤ g u) → tot U f ≤ tot U g
  | [], _ => Nat.le_refl _
  | u :: U, h => by
    have h1 := h u List.mem_cons_self
    have h2 := tot_le (U := U) fun v hv => h v (List.mem_cons_of_mem _ hv)
    unfold tot at *
    rw [List.map_cons, List.map_cons, List.sum_cons, List.sum_cons]
    omega
theorem tot_lt {f g : Ky → Nat} : ∀ {U : List Ky}, (∀ u ∈ U, f u ≤ g u) → (∃ u ∈ U, f u < g u) → tot U f < tot U g
  | [], _, ⟨_, hu, _⟩ => nomatch hu
  | u :: U, h, ⟨v, hv, hlt⟩ => by
    have h1 := h u List.mem_cons_self
    have h2 := tot_le (U := U) fun v hv => h v (List.mem_cons_of_mem _ hv)
    rcases List.mem_cons.mp hv with e | hv
    · subst e
      unfold tot at *
      rw [List.map_cons, List.map_cons, List.sum_cons, List.sum_cons]
      omega
    · have h3 := tot_lt (U := U) (fun v hv => h v (List.mem_cons_of_mem _ hv)) ⟨v, hv, hlt⟩
      unfold tot at *
      rw [List.map_cons, List.map_cons, List.sum_cons, List.sum_cons]
      omega
/-- lists without repeats within another are no longer -/
theorem nodup_len {α : Type} [DecidableEq α] : ∀ {l m : List α}, l.Nodup → (∀ x ∈ l, x ∈ m) → l.length ≤ m.length
  | [], _, _, _ => Nat.zero_le _
  | a :: l, m, nd, h => by
    obtain ⟨n1, n2⟩ := List.nodup_cons.mp nd
    have hm : a ∈ m := h a List.mem_cons_self
    have ih := nodup_len (l := l) (m := m.erase a) n2 fun x hx => (List.mem_erase_of_ne (fun (e : x = a) => n1 (by rw [← e]; exact hx))).mpr (h x (List.mem_cons_of_mem _ hx))
    rw [List.length_erase_of_mem hm] at ih
    have := List.length_pos_of_mem hm
    rw [List.length_cons]
    omega
theorem kyL_inj {a b : Ky} (h : kyL a = kyL b) : a = b := by
  obtain ⟨r, lo, hi, z⟩ := a
  obtain ⟨r', lo', hi', z'⟩ := b
  unfold kyL at h
  simp only [List.cons.injEq, and_true] at h
  obtain ⟨h1, h2, h3, h4⟩ := h
  have : r = r' := by omega
  subst this h2 h3 h4
  rfl
/-! ### such lists and dicts of the heap -/
section
variable {α : Type} {R : α → V → Prop}
def EntR (R : α → V → Prop) (p : Ky × α) (x : DEnt) : Prop := x.1 = kyL p.1 ∧ R p.2 x.2.2
theorem atX_cons (x : DEnt) (xs : List DEnt) (k : List Int) : atX (x :: xs) k = if x.1 = k then some x.2.2 else atX xs k := by
  unfold atX
  rw [List.find?_cons]
  by_cases h : x.1 = k
  · rw [if_pos h, decide_eq_true h]; rfl
  · rw [if_neg h, decide_eq_false h]
theorem ent_look {C : List (Ky × α)} {xs : List DEnt} (h : Paired (EntR R) C xs) (k : Ky) : match lookC C k with | none => atX xs (kyL k) = none | some c => ∃ v, atX xs (kyL k) = some v ∧ R c v := by
  induction h with
  | nil => exact rfl
  | @cons p x C xs h t ih =>
    rw [look_cons, atX_cons]
    obtain ⟨h1, h2⟩ := h
    by_cases e : p.1 = k
    · rw [if_pos e, if_pos (by rw [h1, e])]
      exact ⟨_, rfl, h2⟩
    · rw [if_neg e, if_neg (by rw [h1]; exact fun z => e (kyL_inj z))]
      exact ih
theorem ent_none {C : List (Ky × α)} {xs : List DEnt} (h : Paired (EntR R) C xs) {k : Ky} (e : lookC C k = none) : atX xs (kyL k) = none := by
  have := ent_look h k
  rw [e] at this
  exact this
theorem ent_some {C : List (Ky × α)} {xs : List DEnt} (h : Paired (EntR R) C xs) {k : Ky} {c : α} (e : lookC C k = some c) : ∃ v, atX xs (kyL k) = some v ∧ R c v := by
  have := ent_look h k
  rw [e] at this
  exact this
theorem ent_set {C : List (Ky × α)} {xs : List DEnt} (h : Paired (EntR R) C xs) {k : Ky} {c : α} {v : V} (b : Addr) (r : R c v) : Paired (EntR R) (setC C k c) (stoX xs (kyL k) b v) := by
  unfold setC stoX
  cases e : lookC C k with
  | none =>
    rw [ent_none h e, if_neg (by simp), if_neg (by simp)]
    exact Paired.snoc h ⟨rfl, r⟩
  | some d =>
    obtain ⟨u, hu, _⟩ := ent_some h e
    rw [hu, if_pos (by simp), if_pos (by simp)]
    clear e hu
    induction h with
    | nil => exact .nil
    | @cons p x C xs h t ih =>
      rw [List.map_cons, List.map_cons]
      refine .cons ?_ ih
      obtain ⟨h1, h2⟩ := h
      unfold putX
      by_cases e : p.1 = k
      · rw [if_pos e, if_pos (by rw [h1, e])]; exact ⟨h1, r⟩
      · rw [if_neg e, if_neg (by rw [h1]; exact fun z => e (kyL_inj z))]; exact ⟨h1, h2⟩
end
theorem keyK_sto {K : PySem.W.Frag} {H : Hp} {xs : List DEnt} {k : List Int} {b : Addr} {v : V} (h : KeyK K H xs) (hb : SqT K H b (k.map V.int)) : KeyK K H (stoX xs k b v) := by
  intro x hx
  unfold stoX at hx
  split at hx
  · obtain ⟨y, hy, e⟩ := List.mem_map.mp hx
    unfold putX at e
    split at e
    · subst e; exact h y hy
    · subst e; exact h y hy
  · rcases List.mem_append.mp hx with hx | hx
    · exact h x hx
    · obtain rfl := List.mem_singleton.mp hx
      exact hb
theorem KeyK.sameT {K : PySem.W.Frag} {H H' : Hp} {xs : List DEnt} (h : KeyK K H xs) (e : SameT H H') : KeyK K H' xs := fun x hx => sameT_sqT e (h x hx)
/-- v is a key's tuple -/
def KyV (K : PySem.W.Frag) (H : Hp) (v : V) (k : Ky) : Prop := ∃ b, v = .ref b ∧ SqT K H b ((kyL k).map V.int)
theorem KyV.sameT {K : PySem.W.Frag} {H H' : Hp} {v : V} {k : Ky} (h : KyV K H v k) (e : SameT H H') : KyV K H' v k := by
  obtain ⟨b, h1, h2⟩ := h
  exact ⟨b, h1, sameT_sqT e h2⟩
theorem paired_drop {α β : Type} {F : α → β → Prop} {xs : List α} {ys : List β} (h : Paired F xs ys) : Paired F xs.dropLast ys.dropLast := by
  induction h with
  | nil => exact .nil
  | @cons a b as bs r t ih =>
    cases t with
    | nil => exact .nil
    | cons r2 t2 => exact .cons r ih
theorem drop_last_eq {α : Type} {l : List α} {x : α} (h : l[l.length - 1]? = some x) : l = l.dropLast ++ [x] := by
  have hl : l ≠ [] := fun e => by subst e; simp at h
  have e := List.dropLast_concat_getLast hl
  have e2 : l.getLast hl = x := by
    rw [List.getLast_eq_getElem]
    exact (List.getElem?_eq_some_iff.mp h).2
  rw [← e2]
  exact e.symm

structure Fl (Pr : Pg) (S : List Sg) (U : List Ky) : Prop where
  first : (⟨0, 0, 0, 1⟩ : Ky) ∈ U
  ok : ∀ k ∈ U, Rng k.lo k.hi k.z ∧ ∃ r, RowOk Pr S k.r r
  step : ∀ k ∈ U, ∀ c ∈ comesOf Pr S k.r k.lo k.hi k.z, c.key ∈ U ∧ 0 ≤ c.ls ∧ c.ls ≤ c.ms ∧ 2 ≤ c.ms ∧ c.ms ≤ 5
  len : U.length ≤ 1000
  pl : Pr.length ≤ 1000
def muK (U : List Ky) (F : List (Ky × Unit)) (W : List Ky) : Nat := 2 * tot U (fun u => if (lookC F u).isSome = true then 0 else 1) + W.length
theorem muK_put {U : List Ky} {F : List (Ky × Unit)} {W : List Ky} {k : Ky} (hk : k ∈ U) (h : lookC F k = none) : muK U (setC F k ()) (W ++ [k]) ≤ muK U F W := by
  unfold muK
  have : tot U (fun u => if (lookC (setC F k ()) u).isSome = true then 0 else 1) < tot U (fun u => if (lookC F u).isSome = true then 0 else 1) := by
    refine tot_lt (fun u _ => ?_) ⟨k, hk, ?_⟩
    · rw [look_set]
      by_cases e : u = k
      · rw [if_pos e]; simp
      · rw [if_neg e]; exact Nat.le_refl _
    · rw [look_set, if_pos rfl, h]; simp
  rw [List.length_append]
  show _ + (W.length + 1) ≤ _
  omega
theorem tot_const (f : Ky → Nat) : ∀ U : List Ky, (∀ u ∈ U, f u ≤ 1) → tot U f ≤ U.length
  | [], _ => Nat.le_refl _
  | u :: U, h => by
    have h1 := h u List.mem_cons_self
    have h2 := tot_const f U fun v hv => h v (List.mem_cons_of_mem _ hv)
    unfold tot at *
    rw [List.map_cons, List.sum_cons, List.length_cons]
    omega
structure LKat (P : Program) (w : World) (K : PySem.W.Frag) (U : List Ky) (d wl : Addr) (F : List (Ky × Unit)) (W : List Ky) (H : Hp) : Prop where
  ex : ∃ xs ws, H d = some (DO P w d xs) ∧ H wl = some (.lst ws) ∧ KeyK K H xs ∧ Paired (EntR fun _ _ => True) F xs ∧ Paired (KyV K H) ws W
  nd : (F.map (·.1)).Nodup
  fU : ∀ p ∈ F, p.1 ∈ U
  wU : ∀ k ∈ W, k ∈ U
theorem last_some {α : Type} {l : List α} (h : 0 < l.length) : ∃ x, l[l.length - 1]? = some x := ⟨l[l.length - 1], List.getElem?_eq_getElem (by omega)⟩
section
variable {P : Program} {w : World} {K : PySem.W.Frag} {mg : Str → Option Value} {base : Heap}
def sp_least_keys (P : Program) (w : World) (K : PySem.W.Frag) : Sp := fun vs H Q _ => ∃ a s Pr S U, vs = [.ref a, .ref s] ∧ PgAt K H a Pr ∧ SgsAt K H s S ∧ Fl Pr S U ∧ ∀ H' v, Same H H' → Q v H'
abbrev N_least_keys : List Str := ["program", "signs", "found", "waiting", "key", "least", "most"]
theorem sc_least_keys : FnScope N_least_keys ["program", "signs"] (defScope s_least_keys) := ⟨rfl, rfl, rfl, by decide +kernel, rfl, by decide +kernel, by decide +kernel⟩
theorem ok_least_keys (T : TX K mg) : Ok P w K mg base 6 "least_keys" ["program", "signs"] (sp_least_keys P w K) := by
  refine T.d_least_keys.ok sc_least_keys (fun _ _ _ _ _ _ us hl => match us, hl with | [_, _], _ => rfl) (fun vs H Q E h => ?_) (fun f cdv A outer s H vs Q E hr h => ?_)
  · obtain ⟨_, _, _, _, _, rfl, _⟩ := h; rfl
  · obtain ⟨a, sg, Pr, S, U, rfl, hP, hSg, FL, k⟩ := h
    refine ⟨_, (pss_cons (ps_set (i := 2) sc_least_keys.nd rfl (Or.inl rfl) (pe_xdisp hr.units0 (pgt T.c_FIRST_KEY rfl) pe_bl))
        (pss_cons (ps_set (i := 3) sc_least_keys.nd rfl (Or.inl rfl) (pe_lst (pa_cons (pgt T.c_FIRST_KEY rfl) pa_nil)))
        (pss_cons (ps_while PassesOwn.never (pt_cmpR op_gt (pe_callB call_len_seq rfl T.n_len (by decide +kernel) (pa_cons (pv 3) pa_nil)) pe_int (nomark _)) (pss_cons (ps_for PassesOwn.never rfl (pi_list (pcall (ok_keys_behind T) (hr.mono (by decide)) rfl (pa_cons (pv 0) (pa_cons (pv 1) (pa_cons (pe_bm0 PySem.F.plainAttrs_list PySem.F.slot_list_pop PySem.F.type_list_pop mt_pop (pv 3)) pa_nil))))) (pg_tup rfl (pgs_cons (pg_name (i := 4) sc_least_keys.nd rfl (Or.inl rfl)) (pgs_cons (pg_name (i := 5) sc_least_keys.nd rfl (Or.inl rfl)) (pgs_cons (pg_name (i := 6) sc_least_keys.nd rfl (Or.inl rfl)) pgs_nil)))) (pss_one (ps_if (pt_cmpR (op_xnotin (hu_of hr)) (pv 4) (pv 2) rfl) (pss_cons (ps_xput (hu_of hr) (pv 2) (pv 4) pe_bl rfl)
              (pss_one (ps_expr (pe_bm PySem.F.plainAttrs_list PySem.F.slot_list_append PySem.F.type_list_append mt_append (pv 3) (pa_cons (pv 4) pa_nil))))) pss_nil)))
          (pss_one (ps_if (pt_cmpR op_gt (pe_callB call_len_dX rfl T.n_len (by decide +kernel) (pa_cons (pv 2) pa_nil)) (pgi T.i_MOST_CELLS rfl) (nomark _)) (pss_one ps_never) pss_nil))))
        (pss_one (ps_ret (pv 2)))))), ?_⟩
    refine fun d hd fk hfk => ⟨_, fk, kyL ⟨0, 0, 0, 1⟩, rfl, upd_same, hfk _, fun fk2 hfk2 => ⟨(by show 1 ≤ sizeLine; decide), fun wl hwl => ?_⟩⟩
    rw [upd_upd] at hwl ⊢
    have hwl0 : H wl = none := (same_new hd).free hwl
    have ndw : d ≠ wl := ne_of_none upd_same hwl
    refine ⟨fun m σ H1 => ∃ F W o1 o2 o3, σ = [some (.ref a), some (.ref sg), some (.ref d), some (.ref wl), o1, o2, o3] ∧ Same H H1 ∧ LKat P w K U d wl F W H1 ∧ muK U F W = m ∧ m ≤ 3000, ⟨_, [(⟨0, 0, 0, 1⟩, ())], [⟨0, 0, 0, 1⟩], none, none, none, rfl, same_upd hwl0 (same_new hd), ⟨⟨_, _, by rw [upd_ne ndw]; exact upd_same, upd_same, fun x hx => ?_, .cons ⟨rfl, True.intro⟩ .nil, .cons ⟨fk2, rfl, hfk2 _⟩ .nil⟩, by simp, fun p hp => ?_, fun q hq => ?_⟩, rfl, ?_⟩, ?_⟩
    · obtain rfl := List.mem_singleton.mp hx
      exact hfk _
    · obtain rfl := List.mem_singleton.mp hp
      exact FL.first
    · obtain rfl := List.mem_singleton.mp hq
      exact FL.first
    · unfold muK
      have := tot_const (fun u => if (lookC [((⟨0, 0, 0, 1⟩ : Ky), ())] u).isSome = true then 0 else 1) U (fun u _ => by split <;> omega)
      have h2 := FL.len
      show _ + 1 ≤ 3000
      omega
    · rintro m σ H1 ⟨F, W, o1, o2, o3, rfl, sm, LK, hm, hm3⟩
      obtain ⟨xs, ws, hdx, hwx, hK, hF, hW⟩ := LK.ex
      have hwlen : ws.length = W.length := Paired.length hW
      refine ⟨_, rfl, wl, ws, rfl, .inl (SqL.of hwx), _, _, rfl, rfl, _, rfl, ite_b (fun e => ?_) fun e => ?_⟩
      · have hpos : 0 < ws.length := by have := of_decide_eq_true e; omega
        obtain ⟨v, hv⟩ := last_some hpos
        obtain ⟨ky, hky, b, rfl, hb⟩ := paired_atL hW hv
        have hkyU : ky ∈ U := LK.wU ky (List.mem_of_getElem? hky)
        obtain ⟨R, r, RO⟩ := FL.ok ky hkyU
        refine ⟨fun σ' H' => ∃ m', m' < m ∧ ∃ F W o1 o2 o3, σ' = [some (.ref a), some (.ref sg), some (.ref d), some (.ref wl), o1, o2, o3] ∧ Same H H' ∧ LKat P w K U d wl F W H' ∧ muK U F W = m' ∧ m' ≤ 3000, fun _ _ h => h, ?_⟩
        have sT1 : SameT H1 (upd H1 wl (.lst ws.dropLast)) := sameT_lst hwx
        have sm1 : Same H (upd H1 wl (.lst ws.dropLast)) := same_upd hwl0 sm
        have hWd : W = W.dropLast ++ [ky] := drop_last_eq (by rw [← hwlen]; exact hky)
        have LK1 : LKat P w K U d wl F W.dropLast (upd H1 wl (.lst ws.dropLast)) :=
          ⟨⟨xs, ws.dropLast, by rw [upd_ne ndw]; exact hdx, upd_same, hK.sameT sT1, hF, Paired.mapP (paired_drop hW) fun _ _ q => q.sameT sT1⟩, LK.nd, LK.fU, fun q hq => LK.wU q (List.dropLast_subset _ hq)⟩
        refine ⟨_, rfl, _, rfl, _, rfl, .inl ⟨rfl, _, SqL.of hwx⟩, wl, ws, _, rfl, rfl, hwx, hv, a, sg, Pr, S, ky, b, r, rfl, hP.same sm1, FL.pl, hSg.same sm1, sameT_sqT sT1 hb, R, RO, fun H2 pl vs L s2 hpn hpl hvs hL2 hmem => ?_⟩
        have npw : pl ≠ wl := fun e => by rw [e, upd_same] at hpn; cases hpn
        have npd : pl ≠ d := fun e => by rw [e, upd_ne ndw, hdx] at hpn; cases hpn
        have hvl : vs.length = L.length := Paired.length hvs
        have LK2 : LKat P w K U d wl F W.dropLast H2 := by
          obtain ⟨⟨xs, ws, h1, h2, h3, h4, h5⟩, h6, h7, h8⟩ := LK1
          exact ⟨⟨xs, ws, s2 _ _ h1, s2 _ _ h2, h3.sameT (sameT_of s2), h4, Paired.mapP h5 fun _ _ q => q.sameT (sameT_of s2)⟩, h6, h7, h8⟩
        refine ⟨pl, rfl, ⟨_, SqL.of hpl⟩, for_list (K := K) (a := pl) (xs := vs) (fun j σ H3 => ∃ F' W' o1 o2 o3, σ = [some (.ref a), some (.ref sg), some (.ref d), some (.ref wl), o1, o2, o3] ∧ Same H H3 ∧ H3 pl = some (.lst vs) ∧ SameT H2 H3 ∧ LKat P w K U d wl F' W' H3 ∧ muK U F' W' ≤ muK U F W.dropLast)
          ⟨F, W.dropLast, o1, o2, o3, rfl, sm1.trans s2, hpl, ⟨fun _ _ h => h, fun _ _ _ h => h⟩, LK2, Nat.le_refl _⟩ (fun j σ H3 _ ⟨_, _, _, _, _, _, _, h, _⟩ => SqL.of h) ?_ ?_⟩
        · rintro j v σ H3 hj ⟨F', W', p1, p2, p3, rfl, sm3, hpl3, sT3, LK3, hmu⟩
          obtain ⟨c, hc, bb, kb, rfl, hbb, hkb⟩ := paired_atL hvs hj
          have hcU := (FL.step ky hkyU c ((hmem c).mp (List.mem_of_getElem? hc))).1
          obtain ⟨xs3, ws3, h1, h2, h3, h4, h5⟩ := LK3.ex
          have hkb3 : SqT K H3 kb ((kyL c.key).map V.int) := SqT.of (sT3.tup _ _ hkb)
          refine ⟨bb, _, rfl, SqT.of (sT3.tup _ _ hbb), rfl, _, _, rfl, _, _, rfl, _, _, rfl, rfl, ?_⟩
          refine ⟨_, rfl, _, rfl, d, kb, xs3, kyL c.key, rfl, rfl, h1, h3, hkb3, _, rfl, ?_⟩
          have hnl : F'.length ≤ 1000 := by
            have q := nodup_len (l := F'.map (·.1)) (m := U) LK3.nd fun x hx => by
              obtain ⟨p, hp, rfl⟩ := List.mem_map.mp hx
              exact LK3.fU p hp
            rw [List.length_map] at q
            exact Nat.le_trans q FL.len
          have hxl : F'.length = xs3.length := Paired.length h4
          have hw3 : ws3.length = W'.length := Paired.length h5
          cases e2 : lookC F' c.key with
          | some u =>
            obtain ⟨v2, hv2, _⟩ := ent_some h4 e2
            rw [hv2]
            exact iteF ⟨F', W', _, _, _, rfl, sm3, hpl3, sT3, LK3, hmu⟩
          | none =>
            rw [ent_none h4 e2]
            refine iteT ⟨_, rfl, _, rfl, d, kb, xs3, kyL c.key, rfl, rfl, h1, h3, hkb3, small1000 (by omega), ?_⟩
            have sTd : SameT H3 (upd H3 d (DO P w d (stoX xs3 (kyL c.key) kb (.bl true)))) := sameT_ext h1
            have h2d : (upd H3 d (DO P w d (stoX xs3 (kyL c.key) kb (.bl true)))) wl = some (.lst ws3) := by rw [upd_ne ndw.symm]; exact h2
            have hmu2 : muK U F' W' ≤ 3000 := by
              have : muK U F W.dropLast ≤ muK U F W := by unfold muK; rw [List.length_dropLast]; omega
              omega
            refine ⟨_, rfl, .inl ⟨rfl, _, SqL.of h2d⟩, _, rfl, wl, ws3, _, rfl, rfl, h2d, ?_, ?_⟩
            · have : W'.length ≤ muK U F' W' := by unfold muK; omega
              rw [sizeLine_eq]; omega
            have sTw : SameT H3 (upd (upd H3 d (DO P w d (stoX xs3 (kyL c.key) kb (.bl true)))) wl (.lst (ws3 ++ [.ref kb]))) := sTd.trans (sameT_lst h2d)
            refine ⟨setC F' c.key (), W' ++ [c.key], _, _, _, rfl, same_upd hwl0 (same_upd hd sm3), by rw [upd_ne npw, upd_ne npd]; exact hpl3, sT3.trans sTw, ⟨⟨_, _, by rw [upd_ne ndw]; exact upd_same, upd_same, (keyK_sto h3 hkb3).sameT sTw, ent_set h4 kb True.intro, Paired.snoc (Paired.mapP h5 fun _ _ q => q.sameT sTw) ⟨kb, rfl, sameT_sqT sTw hkb3⟩⟩, set_nodup LK3.nd, fun p hp => ?_, fun q hq => ?_⟩, Nat.le_trans (muK_put hcU e2) hmu⟩
            · rcases set_mem hp with hp | hp
              · exact LK3.fU p hp
              · rw [hp]; exact hcU
            · rcases List.mem_append.mp hq with hq | hq
              · exact LK3.wU q hq
              · rw [List.mem_singleton.mp hq]; exact hcU
        · rintro σ H3 ⟨F', W', p1, p2, p3, rfl, sm3, hpl3, sT3, LK3, hmu⟩
          obtain ⟨xs3, ws3, h1, h2, h3, h4, h5⟩ := LK3.ex
          have hnl : F'.length ≤ 1000 := by
            have q := nodup_len (l := F'.map (·.1)) (m := U) LK3.nd fun x hx => by
              obtain ⟨p, hp, rfl⟩ := List.mem_map.mp hx
              exact LK3.fU p hp
            rw [List.length_map] at q
            exact Nat.le_trans q FL.len
          have hxl : F'.length = xs3.length := Paired.length h4
          refine ⟨_, rfl, d, xs3, rfl, h1, h3, _, _, rfl, rfl, _, rfl, ?_⟩
          rw [decide_eq_false (show ¬ (3000 : Int) < ((xs3.length : Nat) : Int) by omega)]
          have hmu2 : muK U F W.dropLast < muK U F W := by unfold muK; rw [List.length_dropLast]; omega
          exact iteF ⟨muK U F' W', by omega, F', W', p1, p2, p3, rfl, sm3, LK3, rfl, by omega⟩
      · exact ⟨_, rfl, k H1 _ sm⟩
end

/-! ### the seeking, plain -/
structure Cl where
  e : Int
  l : Int
  w : List Nat
structure Sk where
  C : List (Ky × Cl)
  W : List Ky
  L : Option (List Nat)
def newC (o : Option Cl) (e l : Int) (w : List Nat) : Cl := match o with
  | none => ⟨e, l, w⟩
  | some o => if o.l < l then ⟨if o.e < e then o.e else e, l, w⟩ else ⟨if o.e < e then o.e else e, o.l, o.w⟩
def isNew (o : Option Cl) (n : Cl) : Bool := match o with
  | none => true
  | some o => !(decide (n.e = o.e) && decide (n.l = o.l))
def putS (s : Sk) (k : Ky) (e l : Int) (w : List Nat) : Sk :=
  ⟨if isNew (lookC s.C k) (newC (lookC s.C k) e l w) = true then setC s.C k (newC (lookC s.C k) e l w) else s.C,
   if isNew (lookC s.C k) (newC (lookC s.C k) e l w) = true then s.W ++ [k] else s.W, if 30 < l then some w.reverse else s.L⟩
theorem new_not {o : Option Cl} {e l : Int} {w : List Nat} (h : isNew o (newC o e l w) = false) : o = some (newC o e l w) := by
  cases o with
  | none => cases h
  | some o =>
    unfold isNew at h
    simp only [Bool.not_eq_false', Bool.and_eq_true, decide_eq_true_eq] at h
    obtain ⟨h1, h2⟩ := h
    unfold newC at *
    simp only at *
    by_cases hl : o.l < l
    · rw [if_pos hl] at h2
      exact absurd h2 (by show ¬ l = o.l; omega)
    · rw [if_neg hl] at h1 ⊢
      have h1 : (if o.e < e then o.e else e) = o.e := h1
      rw [h1]
theorem new_e {o : Option Cl} {e l : Int} {w : List Nat} : (newC o e l w).e ≤ e := by
  cases o with
  | none => exact Int.le_refl _
  | some o => unfold newC; simp only; split <;> (simp only; split <;> omega)
theorem new_l {o : Option Cl} {e l : Int} {w : List Nat} : l ≤ (newC o e l w).l := by
  cases o with
  | none => exact Int.le_refl _
  | some o => unfold newC; simp only; split <;> (simp only; omega)
theorem new_old {o : Cl} {e l : Int} {w : List Nat} : (newC (some o) e l w).e ≤ o.e ∧ o.l ≤ (newC (some o) e l w).l := by
  unfold newC; simp only; split <;> (simp only; split <;> omega)
theorem new_ce {o : Option Cl} {e l : Int} {w : List Nat} : (newC o e l w).e = e ∨ ∃ c, o = some c ∧ (newC o e l w).e = c.e := by
  cases o with
  | none => exact .inl rfl
  | some o => 
    unfold newC
    simp only
    split <;> (simp only; split <;> first | exact .inl rfl | exact .inr ⟨_, rfl, rfl⟩)
theorem new_cl {o : Option Cl} {e l : Int} {w : List Nat} : ((newC o e l w).l = l ∧ (newC o e l w).w = w) ∨ ∃ c, o = some c ∧ (newC o e l w).l = c.l ∧ (newC o e l w).w = c.w := by
  cases o with
  | none => exact .inl ⟨rfl, rfl⟩
  | some o => 
    unfold newC
    simp only
    split <;> first | exact .inl ⟨rfl, rfl⟩ | exact .inr ⟨_, rfl, rfl, rfl⟩
section
variable {s : Sk} {k : Ky} {e l : Int} {w : List Nat}
theorem put_look (j : Ky) : lookC (putS s k e l w).C j = if j = k then some (newC (lookC s.C k) e l w) else lookC s.C j := by
  unfold putS
  simp only
  cases h : isNew (lookC s.C k) (newC (lookC s.C k) e l w) with
  | true => rw [if_pos rfl, look_set]
  | false =>
    rw [if_neg Bool.false_ne_true]
    by_cases hj : j = k
    · rw [if_pos hj, hj, ← new_not h]
    · rw [if_neg hj]
theorem put_W {j : Ky} (h : j ∈ s.W) : j ∈ (putS s k e l w).W := by
  unfold putS
  simp only
  split
  · exact List.mem_append.mpr (.inl h)
  · exact h
theorem put_W2 {j : Ky} (h : j ∈ (putS s k e l w).W) : j ∈ s.W ∨ j = k := by
  unfold putS at h
  simp only at h
  split at h
  · rcases List.mem_append.mp h with h | h
    · exact .inl h
    · exact .inr (List.mem_singleton.mp h)
  · exact .inl h
theorem put_cur : lookC s.C k = some (newC (lookC s.C k) e l w) ∨ k ∈ (putS s k e l w).W := by
  cases h : isNew (lookC s.C k) (newC (lookC s.C k) e l w) with
  | true =>
    right
    unfold putS
    simp only
    rw [if_pos h]
    exact List.mem_append.mpr (.inr (List.mem_singleton.mpr rfl))
  | false => exact .inl (new_not h)
theorem put_C {p : Ky × Cl} (h : p ∈ (putS s k e l w).C) : p ∈ s.C ∨ p.1 = k := by
  unfold putS at h
  simp only at h
  split at h
  · rcases set_mem h with h | h
    · exact .inl h
    · exact .inr (by rw [h])
  · exact .inl h
theorem put_nd (h : (s.C.map (·.1)).Nodup) : ((putS s k e l w).C.map (·.1)).Nodup := by
  unfold putS
  simp only
  split
  · exact set_nodup h
  · exact h
end
/-- the ways of rows: how late, and the rows, the last one ahead -/
inductive Way (Pr : Pg) (S : List Sg) : Int → List Nat → Prop
  | zero : Way Pr S 0 [0]
  | wait {l : Int} {r : Nat} {v : List Nat} {lo hi z : Int} {c : Cm} {R : Rw} : Way Pr S l (r :: v) → RowOk Pr S r R → Rng lo hi z → c ∈ comesOf Pr S r lo hi z → waitAt Pr r = true → Way Pr S 0 [c.r]
  | step {l : Int} {r : Nat} {v : List Nat} {lo hi z : Int} {c : Cm} {R : Rw} : Way Pr S l (r :: v) → RowOk Pr S r R → Rng lo hi z → c ∈ comesOf Pr S r lo hi z → waitAt Pr r = false → 2 ≤ c.ms → Way Pr S (l + c.ms) (c.r :: r :: v)
theorem Way.len {Pr : Pg} {S : List Sg} {l : Int} {v : List Nat} (h : Way Pr S l v) : 2 * (v.length : Int) ≤ l + 2 ∧ 0 ≤ l := by
  induction h with
  | zero => exact ⟨by decide, by decide⟩
  | wait _ _ _ _ _ ih => exact ⟨by show 2 * ((1 : Nat) : Int) ≤ 0 + 2; decide, by decide⟩
  | step _ _ _ _ _ h2 ih =>
    rw [List.length_cons]
    omega
section
variable {Pr : Pg} {S : List Sg} {U : List Ky}
structure SkI (Pr : Pg) (S : List Sg) (U : List Ky) (s : Sk) : Prop where
  nd : (s.C.map (·.1)).Nodup
  cU : ∀ p ∈ s.C, p.1 ∈ U
  wU : ∀ k ∈ s.W, k ∈ U
  wC : ∀ k ∈ s.W, ∃ c, lookC s.C k = some c
  ce : ∀ k c, lookC s.C k = some c → 0 ≤ c.e ∧ c.e ≤ c.l ∧ c.l ≤ 35 ∧ (s.L = none → c.l ≤ 30) ∧ (∃ v, c.w = k.r :: v) ∧ Way Pr S c.l c.w
  fi : ∃ c, lookC s.C ⟨0, 0, 0, 1⟩ = some c ∧ c.e ≤ 0
  la : ∀ rows, s.L = some rows → ∃ l v, Way Pr S l v ∧ 30 < l ∧ l ≤ 35 ∧ rows = v.reverse
def Keeps (Pr : Pg) (C : List (Ky × Cl)) (k : Ky) (c : Cl) (m : Cm) : Prop := ∃ d, lookC C m.key = some d ∧ (if waitAt Pr k.r = true then d.e ≤ 0 ∧ 0 ≤ d.l else d.e ≤ c.e + m.ls ∧ c.l + m.ms ≤ d.l)
def Clo (Pr : Pg) (S : List Sg) (A : Ky → Cm → Prop) (s : Sk) : Prop := ∀ k c, lookC s.C k = some c → k ∈ s.W ∨ ∀ m ∈ comesOf Pr S k.r k.lo k.hi k.z, A k m → Keeps Pr s.C k c m
theorem Keeps.put {s : Sk} {k j : Ky} {c : Cl} {m : Cm} {e l : Int} {v : List Nat} (h : Keeps Pr s.C j c m) : Keeps Pr (putS s k e l v).C j c m := by
  obtain ⟨d, h1, h2⟩ := h
  by_cases hk : m.key = k
  · refine ⟨newC (lookC s.C k) e l v, by rw [put_look, if_pos hk], ?_⟩
    rw [hk] at h1
    rw [h1]
    have := new_old (o := d) (e := e) (l := l) (w := v)
    split at h2
    · rename_i hw
      rw [if_pos hw]
      omega
    · rename_i hw
      rw [if_neg hw]
      omega
  · exact ⟨d, by rw [put_look, if_neg hk]; exact h1, h2⟩
theorem Clo.put {A : Ky → Cm → Prop} {s : Sk} {k : Ky} {e l : Int} {v : List Nat} (h : Clo Pr S A s) : Clo Pr S A (putS s k e l v) := by
  intro j c hj
  have keep : lookC s.C j = some c → j ∈ (putS s k e l v).W ∨ ∀ m ∈ comesOf Pr S j.r j.lo j.hi j.z, A j m → Keeps Pr (putS s k e l v).C j c m := fun h1 => by
    rcases h j c h1 with h2 | h2
    · exact .inl (put_W h2)
    · exact .inr fun m hm ha => (h2 m hm ha).put
  by_cases hk : j = k
  · rw [put_look, if_pos hk] at hj
    subst hk
    rcases put_cur (s := s) (k := j) (e := e) (l := l) (w := v) with h2 | h2
    · exact keep (h2.trans hj)
    · exact .inl h2
  · rw [put_look, if_neg hk] at hj
    exact keep hj
theorem SkI.put {s : Sk} {k : Ky} {e l : Int} {v : List Nat} (I : SkI Pr S U s) (hk : k ∈ U) (h0 : 0 ≤ e) (hel : e ≤ l) (hl : l ≤ 35) (hv : ∃ v', v = k.r :: v') (hw : Way Pr S l v) : SkI Pr S U (putS s k e l v) := by
  have hL : (putS s k e l v).L = none → l ≤ 30 ∧ s.L = none := fun q => by
    have q : (if 30 < l then some v.reverse else s.L) = none := q
    by_cases h : 30 < l
    · rw [if_pos h] at q; cases q
    · rw [if_neg h] at q; exact ⟨by omega, q⟩
  refine ⟨put_nd I.nd, fun p hp => ?_, fun j hj => ?_, fun j hj => ?_, fun j c hj => ?_, ?_, fun rows hr => ?_⟩
  · rcases put_C hp with h | h
    · exact I.cU p h
    · rw [h]; exact hk
  · rcases put_W2 hj with h | h
    · exact I.wU j h
    · rw [h]; exact hk
  · rw [put_look]
    by_cases h : j = k
    · rw [if_pos h]; exact ⟨_, rfl⟩
    · rw [if_neg h]
      rcases put_W2 hj with h2 | h2
      · exact I.wC j h2
      · exact absurd h2 h
  · rw [put_look] at hj
    by_cases h : j = k
    · rw [if_pos h] at hj
      subst h
      have hc : newC (lookC s.C j) e l v = c := Option.some.inj hj
      have a1 := new_e (o := lookC s.C j) (e := e) (l := l) (w := v)
      have a2 := new_l (o := lookC s.C j) (e := e) (l := l) (w := v)
      rcases new_ce (o := lookC s.C j) (e := e) (l := l) (w := v) with h1 | ⟨c1, h1, h1e⟩
      · rcases new_cl (o := lookC s.C j) (e := e) (l := l) (w := v) with ⟨h2, h3⟩ | ⟨c2, h2, h3, h4⟩
        · rw [hc] at h1 h2 h3
          rw [h1, h2, h3]
          exact ⟨h0, hel, hl, fun q => (hL q).1, hv, hw⟩
        · obtain ⟨b1, b2, b3, b4, b5, b6⟩ := I.ce j c2 h2
          rw [hc] at h1 h3 h4 a2
          rw [h1, h3, h4]
          exact ⟨h0, by omega, b3, fun q => b4 (hL q).2, b5, b6⟩
      · obtain ⟨d1, d2, d3, d4, d5, d6⟩ := I.ce j c1 h1
        rcases new_cl (o := lookC s.C j) (e := e) (l := l) (w := v) with ⟨h2, h3⟩ | ⟨c2, h2, h3, h4⟩
        · rw [hc] at h1e h2 h3 a1
          rw [h2, h3, h1e]
          exact ⟨d1, by omega, hl, fun q => (hL q).1, hv, hw⟩
        · obtain ⟨b1, b2, b3, b4, b5, b6⟩ := I.ce j c2 h2
          have : c2 = c1 := Option.some.inj (h2.symm.trans h1)
          subst this
          rw [hc] at h1e h3 h4
          rw [h1e, h3, h4]
          exact ⟨d1, d2, b3, fun q => b4 (hL q).2, b5, b6⟩
    · rw [if_neg h] at hj
      obtain ⟨b1, b2, b3, b4, b5, b6⟩ := I.ce j c hj
      exact ⟨b1, b2, b3, fun q => b4 (hL q).2, b5, b6⟩
  · obtain ⟨c, h1, h2⟩ := I.fi
    by_cases h : (⟨0, 0, 0, 1⟩ : Ky) = k
    · refine ⟨newC (lookC s.C k) e l v, by rw [put_look, if_pos h], ?_⟩
      rw [← h, h1]
      have := new_old (o := c) (e := e) (l := l) (w := v)
      omega
    · exact ⟨c, by rw [put_look, if_neg h]; exact h1, h2⟩
  · have hr : (if 30 < l then some v.reverse else s.L) = some rows := hr
    by_cases h : 30 < l
    · rw [if_pos h] at hr
      exact ⟨l, v, hw, h, hl, (Option.some.inj hr).symm⟩
    · rw [if_neg h] at hr
      exact I.la rows hr
/-! ### the measure -/
def wtS (o : Option Cl) : Nat := match o with
  | none => 100
  | some c => (c.e + (35 - c.l)).toNat
def muS (U : List Ky) (s : Sk) : Nat := 2 * tot U (fun u => wtS (lookC s.C u)) + s.W.length
theorem muS_put {s : Sk} {k : Ky} {e l : Int} {v : List Nat} (I : SkI Pr S U s) (hk : k ∈ U) (h0 : 0 ≤ e) (hel : e ≤ l) (hl : l ≤ 35) : muS U (putS s k e l v) ≤ muS U s := by
  have hn := new_e (o := lookC s.C k) (e := e) (l := l) (w := v)
  have hn2 := new_l (o := lookC s.C k) (e := e) (l := l) (w := v)
  have hlow : (newC (lookC s.C k) e l v).l ≤ 35 ∧ 0 ≤ (newC (lookC s.C k) e l v).e := by
    constructor
    · rcases new_cl (o := lookC s.C k) (e := e) (l := l) (w := v) with ⟨h2, h3⟩ | ⟨c2, h2, h3, h4⟩
      · omega
      · have := I.ce k c2 h2; omega
    · rcases new_ce (o := lookC s.C k) (e := e) (l := l) (w := v) with h1 | ⟨c1, h1, h1e⟩
      · omega
      · have := I.ce k c1 h1; omega
  have hle : wtS (some (newC (lookC s.C k) e l v)) ≤ wtS (lookC s.C k) ∧ (isNew (lookC s.C k) (newC (lookC s.C k) e l v) = true → wtS (some (newC (lookC s.C k) e l v)) < wtS (lookC s.C k)) := by
    cases h : lookC s.C k with
    | none =>
      unfold wtS newC
      simp only
      exact ⟨by omega, fun _ => by omega⟩
    | some o =>
      have q := new_old (o := o) (e := e) (l := l) (w := v)
      have io := I.ce k o h
      rw [h] at hlow
      unfold wtS
      simp only
      refine ⟨by omega, fun hN => ?_⟩
      have : ¬ ((newC (some o) e l v).e = o.e ∧ (newC (some o) e l v).l = o.l) := fun ⟨x1, x2⟩ => by
        unfold isNew at hN
        simp only [x1, x2] at hN
        simp at hN
      omega
  have hf : ∀ u ∈ U, wtS (lookC (putS s k e l v).C u) ≤ wtS (lookC s.C u) := fun u _ => by
    rw [put_look]
    by_cases hu : u = k
    · rw [if_pos hu, hu]; exact hle.1
    · rw [if_neg hu]; exact Nat.le_refl _
  unfold muS
  cases h : isNew (lookC s.C k) (newC (lookC s.C k) e l v) with
  | true =>
    have hlt := tot_lt hf ⟨k, hk, by rw [put_look, if_pos rfl]; exact hle.2 h⟩
    have hw : (putS s k e l v).W = s.W ++ [k] := by unfold putS; simp only; rw [if_pos h]
    rw [hw, List.length_append, List.length_singleton]
    omega
  | false =>
    have hlt := tot_le hf
    have hw : (putS s k e l v).W = s.W := by unfold putS; simp only; rw [h]; rfl
    rw [hw]
    omega
theorem wt_most (I : ∀ k c, lookC C k = some c → 0 ≤ c.e ∧ c.e ≤ c.l ∧ c.l ≤ 35) : ∀ U : List Ky, tot U (fun u => wtS (lookC C u)) ≤ 100 * U.length
  | [] => Nat.le_refl _
  | u :: U => by
    have h2 := wt_most I U
    have h1 : wtS (lookC C u) ≤ 100 := by
      cases h : lookC C u with
      | none => exact Nat.le_refl _
      | some c =>
        have := I u c h
        unfold wtS
        simp only
        omega
    unfold tot at *
    rw [List.map_cons, List.sum_cons, List.length_cons]
    omega
/-! ### one key's row -/
structure Mid (Pr : Pg) (S : List Sg) (U : List Ky) (k0 : Ky) (c0 : Cl) (D : List Cm) (s : Sk) : Prop where
  I : SkI Pr S U s
  clo : Clo Pr S (fun k m => k = k0 → m ∈ D) s
  cur : k0 ∈ s.W ∨ lookC s.C k0 = some c0
def pop (s : Sk) : Sk := ⟨s.C, s.W.dropLast, s.L⟩
theorem pop_mid {s : Sk} {k0 : Ky} {c0 : Cl} (I : SkI Pr S U s) (hC : Clo Pr S (fun _ _ => True) s) (hw : s.W = s.W.dropLast ++ [k0]) (hc : lookC s.C k0 = some c0) : Mid Pr S U k0 c0 [] (pop s) := by
  refine ⟨⟨I.nd, I.cU, fun k hk => I.wU k (List.dropLast_subset _ hk), fun k hk => I.wC k (List.dropLast_subset _ hk), I.ce, I.fi, I.la⟩, fun k c hk => ?_, .inr hc⟩
  by_cases e : k = k0
  · exact .inr fun m _ h => absurd (h e) (by simp)
  · rcases hC k c hk with h | h
    · rw [hw] at h
      rcases List.mem_append.mp h with h | h
      · exact .inl h
      · exact absurd (List.mem_singleton.mp h) e
    · exact .inr fun m hm _ => h m hm True.intro
/-- what is put for a come -/
def goE (Pr : Pg) (k0 : Ky) (c0 : Cl) (m : Cm) : Int := if waitAt Pr k0.r = true then 0 else c0.e + m.ls
def goL (Pr : Pg) (k0 : Ky) (c0 : Cl) (m : Cm) : Int := if waitAt Pr k0.r = true then 0 else c0.l + m.ms
def goW (Pr : Pg) (k0 : Ky) (c0 : Cl) (m : Cm) : List Nat := if waitAt Pr k0.r = true then [m.r] else m.r :: c0.w
structure C0 (Pr : Pg) (S : List Sg) (U : List Ky) (k0 : Ky) (c0 : Cl) : Prop where
  kU : k0 ∈ U
  e0 : 0 ≤ c0.e
  el : c0.e ≤ c0.l
  l30 : c0.l ≤ 30
  hd : ∃ v, c0.w = k0.r :: v
  way : Way Pr S c0.l c0.w
theorem go_ok (FL : Fl Pr S U) {k0 : Ky} {c0 : Cl} {m : Cm} (Z : C0 Pr S U k0 c0) (hm : m ∈ comesOf Pr S k0.r k0.lo k0.hi k0.z) :
    m.key ∈ U ∧ 0 ≤ goE Pr k0 c0 m ∧ goE Pr k0 c0 m ≤ goL Pr k0 c0 m ∧ goL Pr k0 c0 m ≤ 35 ∧ (∃ v, goW Pr k0 c0 m = m.key.r :: v) ∧ Way Pr S (goL Pr k0 c0 m) (goW Pr k0 c0 m) := by
  obtain ⟨h1, h2, h3, h4, h5⟩ := FL.step k0 Z.kU m hm
  obtain ⟨R, rw_, RO⟩ := FL.ok k0 Z.kU
  obtain ⟨v, hv⟩ := Z.hd
  have hway := Z.way
  rw [hv] at hway
  have := Z.e0
  have := Z.el
  have := Z.l30
  unfold goE goL goW
  cases hw : waitAt Pr k0.r with
  | true =>
    simp only [if_true]
    exact ⟨h1, by decide, by decide, by decide, ⟨_, rfl⟩, .wait hway RO R hm hw⟩
  | false =>
    simp only [Bool.false_eq_true, if_false]
    refine ⟨h1, by omega, by omega, by omega, ⟨_, rfl⟩, ?_⟩
    rw [hv]
    exact .step hway RO R hm hw h4
theorem Mid.put (FL : Fl Pr S U) {k0 : Ky} {c0 : Cl} {m : Cm} {D D2 : List Cm} {s : Sk} (Z : C0 Pr S U k0 c0) (hm : m ∈ comesOf Pr S k0.r k0.lo k0.hi k0.z) (M : Mid Pr S U k0 c0 D s) (hD : ∀ x ∈ D2, x ∈ D ∨ x = m) :
    Mid Pr S U k0 c0 D2 (putS s m.key (goE Pr k0 c0 m) (goL Pr k0 c0 m) (goW Pr k0 c0 m)) ∧ muS U (putS s m.key (goE Pr k0 c0 m) (goL Pr k0 c0 m) (goW Pr k0 c0 m)) ≤ muS U s := by
  obtain ⟨a1, a2, a3, a4, a5, a6⟩ := go_ok FL Z hm
  refine ⟨⟨M.I.put a1 a2 a3 a4 a5 a6, ?_, ?_⟩, muS_put M.I a1 a2 a3 a4⟩
  · have hcl := M.clo.put (k := m.key) (e := goE Pr k0 c0 m) (l := goL Pr k0 c0 m) (v := goW Pr k0 c0 m)
    intro k c hk
    by_cases e : k = k0
    · subst e
      rcases hcl k c hk with h | h
      · exact .inl h
      · by_cases hin : k ∈ (putS s m.key (goE Pr k c0 m) (goL Pr k c0 m) (goW Pr k c0 m)).W
        · exact .inl hin
        · refine .inr fun x hx hxD => ?_
          rcases hD x (hxD rfl) with h2 | h2
          · exact h x hx fun _ => h2
          · subst h2
            have hc : c = c0 := by
              rcases M.cur with h3 | h3
              · exact absurd (put_W h3) hin
              · rw [put_look] at hk
                by_cases e2 : k = x.key
                · rw [if_pos e2] at hk
                  rcases put_cur (s := s) (k := x.key) (e := goE Pr k c0 x) (l := goL Pr k c0 x) (w := goW Pr k c0 x) with h4 | h4
                  · have h5 := h4.trans hk
                    rw [← e2, h3] at h5
                    exact (Option.some.inj h5).symm
                  · rw [← e2] at h4; rw [← e2] at hin; exact absurd h4 hin
                · rw [if_neg e2, h3] at hk
                  exact (Option.some.inj hk).symm
            subst hc
            refine ⟨_, by rw [put_look, if_pos rfl], ?_⟩
            have n1 := new_e (o := lookC s.C x.key) (e := goE Pr k c x) (l := goL Pr k c x) (w := goW Pr k c x)
            have n2 := new_l (o := lookC s.C x.key) (e := goE Pr k c x) (l := goL Pr k c x) (w := goW Pr k c x)
            cases hw : waitAt Pr k.r with
            | true =>
              rw [if_pos rfl]
              have g1 : goE Pr k c x = 0 := by unfold goE; rw [if_pos hw]
              have g2 : goL Pr k c x = 0 := by unfold goL; rw [if_pos hw]
              exact ⟨Int.le_trans n1 (Int.le_of_eq g1), Int.le_trans (Int.le_of_eq g2.symm) n2⟩
            | false =>
              rw [if_neg Bool.false_ne_true]
              have g1 : goE Pr k c x = c.e + x.ls := by unfold goE; rw [hw]; rfl
              have g2 : goL Pr k c x = c.l + x.ms := by unfold goL; rw [hw]; rfl
              exact ⟨by rw [← g1]; exact n1, by rw [← g2]; exact n2⟩
    · rcases hcl k c hk with h | h
      · exact .inl h
      · exact .inr fun x hx _ => h x hx fun e2 => absurd e2 e
  · rcases M.cur with h | h
    · exact .inl (put_W h)
    · by_cases e2 : k0 = m.key
      · rcases put_cur (s := s) (k := m.key) (e := goE Pr k0 c0 m) (l := goL Pr k0 c0 m) (w := goW Pr k0 c0 m) with h4 | h4
        · right
          rw [put_look, if_pos e2, ← h4, ← e2]
          exact h
        · left
          rw [e2] at *
          exact h4
      · right
        rw [put_look, if_neg e2]
        exact h
theorem Mid.all {k0 : Ky} {c0 : Cl} {D : List Cm} {s : Sk} (M : Mid Pr S U k0 c0 D s) (h : ∀ m ∈ comesOf Pr S k0.r k0.lo k0.hi k0.z, m ∈ D) : Clo Pr S (fun _ _ => True) s := by
  intro k c hk
  rcases M.clo k c hk with h1 | h1
  · exact .inl h1
  · exact .inr fun m hm _ => h1 m hm fun e => h m (e ▸ hm)
end

/-! ### the class: methods by name, making, fields -/
def AtM (K : PySem.W.Frag) (CS : Addr) (m q : Str) (st : Stmt) : Prop := ∃ f fd, FnP K m q st f fd ∧ Meth K CS m f
def OkM (P : Program) (w : World) (K : PySem.W.Frag) (mg : Str → Option Value) (base : Heap) (CS : Addr) (k : Nat) (m : Str) (ps : List Str) (sp : Sp) : Prop :=
  ∃ f fd, FnOk P w K mg base CX0 k f fd ps sp ∧ Meth K CS m f ∧ Binds K fd ps []
def AtI (K : PySem.W.Frag) (CS : Addr) (m q : Str) (st : Stmt) : Prop := ∃ f fd, FnP K m q st f fd ∧ Mk K CS f
def OkI (P : Program) (w : World) (K : PySem.W.Frag) (mg : Str → Option Value) (base : Heap) (CS : Addr) (k : Nat) (ps : List Str) (sp : Sp) : Prop :=
  ∃ f fd, FnOk P w K mg base CX0 k f fd ps sp ∧ Mk K CS f ∧ Binds K fd ps []
structure TC (K : PySem.W.Frag) (mg : Str → Option Value) (CS : Addr) : Prop where
  cl : Cls K CS
  mgC : mg "Seeking" = some (.ref CS)
  n_program : NoAttr K CS "program"
  n_signs : NoAttr K CS "signs"
  n_cells : NoAttr K CS "cells"
  n_waiting : NoAttr K CS "waiting"
  n_late : NoAttr K CS "late"
  d_init : AtI K CS "__init__" "Seeking.__init__" s_Seeking_init
  d_put : AtM K CS "put" "Seeking.put" s_Seeking_put
  d_go_on : AtM K CS "go_on" "Seeking.go_on" s_Seeking_go_on
  d_seek : AtM K CS "seek" "Seeking.seek" s_Seeking_seek
  d_paper : AtM K CS "paper" "Seeking.paper" s_Seeking_paper
section
variable {P : Program} {w : World} {K : PySem.W.Frag} {mg : Str → Option Value} {base : Heap} {CS : Addr}
theorem AtM.ok {x q : Str} {st : Stmt} {N ps : List Str} {k : Nat} {sp : Sp} (a : AtM K CS x q st) (S : FnScope N ps (defScope st))
    (hb : ∀ (kV doc pm : Value) (an : Option Addr) (cdv ct : Value) (us : List Value), us.length = ps.length → bindArgs (PySem.W.fnOf x q (defArgs st) (defBody st) (defScope st) .none kV doc pm an cdv ct) ⟨us, []⟩ = pure (ps.zip us))
    (len : ∀ vs H Q E, sp vs H Q E → vs.length = ps.length)
    (hbody : ∀ (f : Addr) (cdv : Value) (A : Around) (outer : List Env) (s : Shared) (H : Hp) (vs : List V) (Q : VK) (E : XK), Room k (A.deeper (envOfC q (defScope st) s.heap.objs.size f cdv)) → sp vs H Q E →
      ∃ t, PSs (cxOf CX0 P w K mg base N q (defScope st) f cdv A outer s H E).nox (defBody st) t ∧ t { nx := fun _ H' => Q .non H', rt := Q } (start N vs) H) : OkM P w K mg base CS (k + 1) x ps sp := by
  obtain ⟨f, fd, F, g⟩ := a
  refine ⟨f, fd, F.ok S len fun cdv A outer s H vs Q E hr h => ?_, g, F.bindsN hb⟩
  obtain ⟨t, h1, h2⟩ := hbody f cdv A outer s H vs Q E hr h
  exact ⟨t, h1.nox, h2⟩
theorem AtI.ok {x q : Str} {st : Stmt} {N ps : List Str} {k : Nat} {sp : Sp} (a : AtI K CS x q st) (S : FnScope N ps (defScope st))
    (hb : ∀ (kV doc pm : Value) (an : Option Addr) (cdv ct : Value) (us : List Value), us.length = ps.length → bindArgs (PySem.W.fnOf x q (defArgs st) (defBody st) (defScope st) .none kV doc pm an cdv ct) ⟨us, []⟩ = pure (ps.zip us))
    (len : ∀ vs H Q E, sp vs H Q E → vs.length = ps.length)
    (hbody : ∀ (f : Addr) (cdv : Value) (A : Around) (outer : List Env) (s : Shared) (H : Hp) (vs : List V) (Q : VK) (E : XK), Room k (A.deeper (envOfC q (defScope st) s.heap.objs.size f cdv)) → sp vs H Q E →
      ∃ t, PSs (cxOf CX0 P w K mg base N q (defScope st) f cdv A outer s H E).nox (defBody st) t ∧ t { nx := fun _ H' => Q .non H', rt := Q } (start N vs) H) : OkI P w K mg base CS (k + 1) ps sp := by
  obtain ⟨f, fd, F, g⟩ := a
  refine ⟨f, fd, F.ok S len fun cdv A outer s H vs Q E hr h => ?_, g, F.bindsN hb⟩
  obtain ⟨t, h1, h2⟩ := hbody f cdv A outer s H vs Q E hr h
  exact ⟨t, h1.nox, h2⟩
end
/-- o.m(..) of an instance of the class at C -/
def tMe (C : Addr) (m : Str) (sp : Sp) (ta : TE) (t : TA) : TE := fun σ H Q => ta σ H fun x H1 => ∃ a dx fs, x = .ref a ∧ H1 a = some (.ins C dx fs) ∧ fs.lookup m = none ∧ t σ H1 fun vs H2 => sp (x :: vs) H2 Q E0
def tMk (C : Addr) (sp : Sp) (t : TA) : TE := fun σ H Q => t σ H fun vs H1 => ∀ x dx, H1 x = none → H1 dx = none → dx ≠ x → sp (.ref x :: vs) (upd (upd H1 dx (.own x)) x (.ins C dx [])) (fun v H2 => v = .non ∧ Q (.ref x) H2) E0
section
variable {X : Cx} {k : Nat} {ps : List Str} {sp : Sp} {x m : Str} {CS : Addr} {p pos apos : Pos} {e o : Expr} {es : List Expr} {ta : TE} {t : TA}
theorem pmeth {pl : Sem Bool} (G : OkM X.prog X.w X.K X.mg X.base CS k m ps sp) (c : Cls X.K CS) (hr : Room k X.A) (he : PE X o ta) (ha : PA X (e :: es) t)
    (hst : starEach (e :: es) X.env = (false, eval e X.env) :: starEach es X.env := by rfl) (hpl : (backTo pos (starEach es X.env)).any (·.1) = false := by rfl)
    (ht : eval (.Call (.Attribute o m apos) (e :: es) [] pos) X.env = (do
      let ov ← eval o X.env
      standAt apos.atName
      let (f, first) ← holding [ov] (getMethod ov m pl)
      callWith pos f first (backTo pos (starEach (e :: es) X.env)) (backToKw pos (keywordEach [] X.env))) := by rfl) : PE X (.Call (.Attribute o m apos) (e :: es) [] pos) (tMe CS m sp ta t) := by
  obtain ⟨f, fd, F, hm, hb⟩ := G
  refine ⟨fun pins s σ H Q I h => (pe_meth he c hm F hr hb .nil pass0 ha hst hpl ht).run pins s σ H Q I ?_⟩
  have e0 : tMeth CS m sp [] E0 ta t = tMe CS m sp ta t := by
    unfold tMeth tMe
    funext σ H Q
    simp only [List.append_nil]
  rw [e0]
  exact h
theorem pmeth0 {pl : Sem Bool} (G : OkM X.prog X.w X.K X.mg X.base CS k m ps sp) (c : Cls X.K CS) (hr : Room k X.A) (he : PE X o ta)
    (ht : eval (.Call (.Attribute o m apos) [] [] pos) X.env = (do
      let ov ← eval o X.env
      standAt apos.atName
      let (f, first) ← holding [ov] (getMethod ov m pl)
      callWith pos f first (backTo pos (starEach [] X.env)) (backToKw pos (keywordEach [] X.env))) := by rfl) : PE X (.Call (.Attribute o m apos) [] [] pos) (tMe CS m sp ta tNil) := by
  obtain ⟨f, fd, F, hm, hb⟩ := G
  exact ⟨fun pins s σ H Q I h => (pe_meth0 he c hm F hr hb .nil pass0 ht).run pins s σ H Q I h⟩
theorem pmake (G : OkI X.prog X.w X.K X.mg X.base CS k ps sp) (hm : X.mg x = some (.ref CS)) (hr : Room (k + 1) X.A) (hg : Gl X x) (ha : PA X (e :: es) t) (hdb : (x == ("__debug__" : Str)) = false := by decide)
    (he : starEach (e :: es) X.env = (false, eval e X.env) :: starEach es X.env := by rfl) (hpl : (backTo pos (starEach es X.env)).any (·.1) = false := by rfl) : PE X (.Call (.Name x p) (e :: es) [] pos) (tMk CS sp t) := by
  obtain ⟨f, fd, F, M, hb⟩ := G
  refine ⟨fun pins s σ H Q I h => (pe_make (p := p) M F hr hg hm hb .nil pass0 ha hdb he hpl).run pins s σ H Q I ?_⟩
  have e0 : tMake CS sp [] E0 t = tMk CS sp t := by
    unfold tMake tMk
    funext σ H Q
    simp only [List.append_nil]
  rw [e0]
  exact h
end
/-! ### the seeking in the heap -/
def WayAt (H : Hp) : V → List Nat → Prop
  | v, [] => v = .non
  | v, r :: ws => ∃ p v', v = .ref p ∧ H p = some (.tup [.int (r : Nat), v']) ∧ WayAt H v' ws
theorem WayAt.sameT {H H' : Hp} (e : SameT H H') : ∀ {ws : List Nat} {v : V}, WayAt H v ws → WayAt H' v ws
  | [], _, h => h
  | _ :: _, _, ⟨p, v', h1, h2, h3⟩ => ⟨p, v', h1, e.tup _ _ h2, WayAt.sameT e h3⟩
def natsV (l : List Nat) : List V := l.map fun n => V.int (n : Nat)
section
variable {K : PySem.W.Frag} {H H' : Hp} {a : Addr} {Pr : Pg} {S : List Sg}
theorem PgAt.sameT (h : PgAt K H a Pr) (e : SameT H H') : PgAt K H' a Pr := by
  obtain ⟨rs, h1, h2⟩ := h
  exact ⟨rs, sameT_sqT e h1, Paired.mapP h2 fun b r z => sameT_sqT e z⟩
theorem SgsAt.sameT (h : SgsAt K H a S) (e : SameT H H') : SgsAt K H' a S := by
  obtain ⟨rs, h1, h2⟩ := h
  exact ⟨rs, sameT_sqT e h1, Paired.mapP h2 fun b r z => z.sameT e⟩
end
/-- one cell: (early, late, way) -/
def ClV (H : Hp) (c : Cl) (v : V) : Prop := ∃ q wv, v = .ref q ∧ H q = some (.tup [.int c.e, .int c.l, wv]) ∧ WayAt H wv c.w
theorem ClV.sameT {H H' : Hp} {c : Cl} {v : V} (h : ClV H c v) (e : SameT H H') : ClV H' c v := by
  obtain ⟨q, wv, h1, h2, h3⟩ := h
  exact ⟨q, wv, h1, e.tup _ _ h2, h3.sameT e⟩
def CsV (H : Hp) (C : List (Ky × Cl)) (xs : List DEnt) : Prop := Paired (EntR (ClV H)) C xs
theorem CsV.sameT {H H' : Hp} {C : List (Ky × Cl)} {xs : List DEnt} (h : CsV H C xs) (e : SameT H H') : CsV H' C xs := Paired.mapP h fun _ _ z => ⟨z.1, z.2.sameT e⟩
def skF (p sg d wl : Addr) (lt : V) : List (Str × V) := [("program", .ref p), ("signs", .ref sg), ("cells", .ref d), ("waiting", .ref wl), ("late", lt)]
def LtV (K : PySem.W.Frag) (H : Hp) (v : V) : Option (List Nat) → Prop
  | none => v = .non
  | some l => ∃ p, v = .ref p ∧ SqT K H p (natsV l)
theorem LtV.sameT {K : PySem.W.Frag} {H H' : Hp} {v : V} {o : Option (List Nat)} (h : LtV K H v o) (e : SameT H H') : LtV K H' v o := by
  cases o with
  | none => exact h
  | some l =>
    obtain ⟨p, h1, h2⟩ := h
    exact ⟨p, h1, sameT_sqT e h2⟩
/-- the object at a stands for s -/
structure SkB (P : Program) (w : World) (K : PySem.W.Frag) (CS a dx p sg d wl : Addr) (lt : V) (xs : List DEnt) (ws : List V) (Pr : Pg) (S : List Sg) (s : Sk) (H : Hp) : Prop where
  ob : H a = some (.ins CS dx (skF p sg d wl lt))
  pg : PgAt K H p Pr
  sg_ : SgsAt K H sg S
  dd : H d = some (DO P w d xs)
  kk : KeyK K H xs
  cs : CsV H s.C xs
  wl_ : H wl = some (.lst ws)
  wk : Paired (KyV K H) ws s.W
  lt_ : LtV K H lt s.L
def SkAt (P : Program) (w : World) (K : PySem.W.Frag) (CS a : Addr) (Pr : Pg) (S : List Sg) (s : Sk) (H : Hp) : Prop := ∃ dx p sg d wl lt xs ws, SkB P w K CS a dx p sg d wl lt xs ws Pr S s H
section
variable {P : Program} {w : World} {K : PySem.W.Frag} {CS a : Addr} {Pr : Pg} {S : List Sg} {s : Sk} {H H' : Hp}
theorem SkB.same {dx p sg d wl : Addr} {lt : V} {xs : List DEnt} {ws : List V} (h : SkB P w K CS a dx p sg d wl lt xs ws Pr S s H) (e : Same H H') : SkB P w K CS a dx p sg d wl lt xs ws Pr S s H' :=
  ⟨e _ _ h.ob, h.pg.same e, h.sg_.same e, e _ _ h.dd, h.kk.sameT (sameT_of e), h.cs.sameT (sameT_of e), e _ _ h.wl_, Paired.mapP h.wk fun _ _ q => q.sameT (sameT_of e), h.lt_.sameT (sameT_of e)⟩
end
section
variable {P : Program} {w : World} {K : PySem.W.Frag} {mg : Str → Option Value} {base : Heap} {CS : Addr}
def sp_rows_of_way (K : PySem.W.Frag) : Sp := fun vs H Q _ => ∃ v ws, vs = [v] ∧ WayAt H v ws ∧ ws.length ≤ 1000 ∧ ∀ H' p, Same H H' → SqT K H' p (natsV ws.reverse) → Q (.ref p) H'
abbrev N_rows_of_way : List Str := ["way", "found"]
theorem sc_rows_of_way : FnScope N_rows_of_way ["way"] (defScope s_rows_of_way) := ⟨rfl, rfl, rfl, by decide +kernel, rfl, by decide +kernel, by decide +kernel⟩
theorem ok_rows_of_way (T : TX K mg) : Ok P w K mg base 1 "rows_of_way" ["way"] (sp_rows_of_way K) := by
  refine T.d_rows_of_way.ok sc_rows_of_way (fun _ _ _ _ _ _ us hl => match us, hl with | [_], _ => rfl) (fun vs H Q E h => ?_) (fun f cdv A outer s H vs Q E hr h => ?_)
  · obtain ⟨_, _, rfl, _⟩ := h; rfl
  · obtain ⟨v, ws, rfl, hw, hl, k⟩ := h
    refine ⟨_, (pss_cons (ps_set (i := 1) sc_rows_of_way.nd rfl (Or.inl rfl) (pe_tup pa_nil))
        (pss_cons (ps_while PassesOwn.never (pt_cmp (pc_notN (pv 0))) (pss_cons (ps_set (i := 1) sc_rows_of_way.nd rfl (Or.inl rfl) (pe_op op_catA (pe_tup (pa_cons (pe_ix ix_tup (pv 0) pe_int (fun _ _ => rfl)) pa_nil)) (pv 1)))
          (pss_one (ps_set (i := 0) sc_rows_of_way.nd rfl (Or.inl rfl) (pe_ix ix_tup (pv 0) pe_int (fun _ _ => rfl))))))
        (pss_one (ps_ret (pv 1))))), ?_⟩
    refine ⟨(by show 0 ≤ sizeLine; decide), fun p hp => ⟨fun m σ H1 => ∃ pre post v' f, σ = [some v', some (.ref f)] ∧ Same H H1 ∧ ws = pre ++ post ∧ WayAt H1 v' post ∧ SqT K H1 f (natsV pre.reverse) ∧ post.length = m, ⟨_, [], ws, v, p, rfl, same_new hp, rfl, hw.sameT (sameT_of (same_new hp)), SqT.of upd_same, rfl⟩, ?_⟩⟩
    rintro m σ H1 ⟨pre, post, v', f, rfl, sm, hws, hpost, hf, hm⟩
    cases post with
    | nil =>
      refine ⟨_, rfl, false, (by rw [show v' = .non from hpost]; rfl), ?_⟩
      refine ⟨_, rfl, k H1 f sm ?_⟩
      rw [hws, List.append_nil]
      exact hf
    | cons r post =>
      obtain ⟨q, v2, rfl, hq, h2⟩ := hpost
      refine ⟨_, rfl, true, rfl, ?_⟩
      refine ⟨fun σ' H' => ∃ m', m' < m ∧ ∃ pre post v' f, σ' = [some v', some (.ref f)] ∧ Same H H' ∧ ws = pre ++ post ∧ WayAt H' v' post ∧ SqT K H' f (natsV pre.reverse) ∧ post.length = m', fun _ _ h => h, ?_⟩
      refine ⟨_, rfl, q, _, _, _, rfl, rfl, SqT.of hq, rfl, (by show 1 ≤ sizeLine; decide), fun t ht => ?_⟩
      have s1 := same_new (o := .tup [.int (r : Nat)]) ht
      have hlen : pre.length + (r :: post).length ≤ 1000 := by rw [← List.length_append, ← hws]; exact hl
      refine ⟨_, rfl, t, f, [.int (r : Nat)], natsV pre.reverse, rfl, rfl, SqT.of upd_same, same_sqT s1 hf, ?_, fun z => (nomatch z), fun _ hz => ?_, fun _ _ p2 hp2 => ?_⟩
      · unfold natsV
        rw [List.length_map, List.length_reverse, sizeLine_eq]
        rw [List.length_cons] at hlen
        show 1 + pre.length ≤ _
        omega
      · have hpre : pre = [] := by
          unfold natsV at hz
          exact List.reverse_eq_nil_iff.mp (List.map_eq_nil_iff.mp hz)
        refine ⟨_, rfl, q, _, _, _, rfl, rfl, SqT.of (s1 _ _ hq), rfl, _, ?_, pre ++ [r], post, v2, t, rfl, sm.trans s1, by rw [hws, List.append_assoc]; rfl, h2.sameT (sameT_of s1), ?_, rfl⟩
        · rw [← hm, List.length_cons]; omega
        · rw [hpre]; exact SqT.of upd_same
      · have s2 := same_new (o := .tup ([V.int (r : Nat)] ++ natsV pre.reverse)) hp2
        refine ⟨_, rfl, q, _, _, _, rfl, rfl, SqT.of (s2 _ _ (s1 _ _ hq)), rfl, _, ?_, pre ++ [r], post, v2, p2, rfl, (sm.trans s1).trans s2, by rw [hws, List.append_assoc]; rfl, h2.sameT (sameT_of (s1.trans s2)), ?_, rfl⟩
        · rw [← hm, List.length_cons]; omega
        · rw [List.reverse_append]; exact SqT.of upd_same
end

/-! ### the cells as data, to be compared -/
def wayD : List Nat → PyData
  | [] => .none
  | r :: ws => .tuple [.int (r : Nat), wayD ws]
def clD (c : Cl) : PyData := .tuple [.int c.e, .int c.l, wayD c.w]
theorem way_lay : ∀ ws : List Nat, (wayD ws).canLay0 = true
  | [] => rfl
  | r :: ws => by
    show PyData.canLay0 (.tuple [.int (r : Nat), wayD ws]) = true
    simp [PyData.canLay0, PyData.canLayAll0, way_lay ws]
theorem way_depth : ∀ ws : List Nat, (wayD ws).depth ≤ ws.length
  | [] => by simp [wayD, PyData.depth]
  | r :: ws => by
    have h := way_depth ws
    have : (wayD (r :: ws)).depth = max (PyData.int (r : Nat)).depth (max (wayD ws).depth 0) + 1 := by
      show PyData.depth (.tuple [.int (r : Nat), wayD ws]) = _
      simp only [PyData.depth, PyData.depthAll]
    rw [this, List.length_cons]
    simp only [PyData.depth]
    omega
theorem cl_shaped {c : Cl} (h : c.w.length ≤ 60) : SeqAt.shaped (clD c) = true := by
  have h1 := way_depth c.w
  have h2 : (clD c).canLay0 = true := by
    show PyData.canLay0 (.tuple [.int c.e, .int c.l, wayD c.w]) = true
    simp [PyData.canLay0, PyData.canLayAll0, way_lay c.w]
  have h3 : (clD c).depth ≤ 64 := by
    show PyData.depth (.tuple [.int c.e, .int c.l, wayD c.w]) ≤ 64
    simp only [PyData.depth, PyData.depthAll]
    omega
  show ((clD c).canLay0 && decide ((clD c).depth ≤ 64)) = true
  rw [h2, decide_eq_true h3]
  rfl
theorem cl_eqv (c d : Cl) (h : c.w = d.w ∨ ¬ (c.e = d.e ∧ c.l = d.l)) : PyData.eqv (clD c) (clD d) = (decide (c.e = d.e) && decide (c.l = d.l)) := by
  have e : PyData.eqv (clD c) (clD d) = (decide (c.e = d.e) && (decide (c.l = d.l) && (PyData.eqv (wayD c.w) (wayD d.w) && true))) := by
    show PyData.eqv (.tuple [.int c.e, .int c.l, wayD c.w]) (.tuple [.int d.e, .int d.l, wayD d.w]) = _
    simp only [PyData.eqv, PyData.eqvAll]
    rfl
  rw [e]
  rcases h with h | h
  · rw [h, SeqAt.eqv_refl _ (way_lay d.w)]
    simp
  · by_cases h1 : c.e = d.e
    · have h2 : ¬ c.l = d.l := fun z => h ⟨h1, z⟩
      simp [h2]
    · simp [h1]
theorem Dp.way {K : PySem.W.Frag} {H : Hp} : ∀ {ws : List Nat} {v : V}, WayAt H v ws → Dp K H v (wayD ws)
  | [], _, h => by cases (show _ = V.non from h); exact .non
  | r :: ws, _, ⟨p, v', h1, h2, h3⟩ => by
    subst h1
    exact .tup (SqT.of h2) (.cons (.int _) (.cons (Dp.way h3) .nil))
theorem Dp.cl {K : PySem.W.Frag} {H : Hp} {c : Cl} {v : V} (h : ClV H c v) : Dp K H v (clD c) := by
  obtain ⟨q, wv, rfl, h2, h3⟩ := h
  exact .tup (SqT.of h2) (.cons (.int _) (.cons (.int _) (.cons (Dp.way h3) .nil)))
/-! ### what is changed about the object -/
structure Fr (a d wl : Addr) (H H' : Hp) : Prop where
  t : SameT H H'
  f : ∀ b o, H b = some o → b ≠ a → b ≠ d → b ≠ wl → H' b = some o
section
variable {P : Program} {w : World} {K : PySem.W.Frag} {CS a dx p sg d wl : Addr} {lt : V} {xs : List DEnt} {ws : List V} {Pr : Pg} {S : List Sg} {s : Sk} {H H' H1 : Hp}
theorem Fr.of (e : Same H H') : Fr a d wl H H' := ⟨sameT_of e, fun b o h _ _ _ => e b o h⟩
theorem Fr.trans (x : Fr a d wl H H1) (y : Fr a d wl H1 H') : Fr a d wl H H' := ⟨x.t.trans y.t, fun b o h h1 h2 h3 => y.f b o (x.f b o h h1 h2 h3) h1 h2 h3⟩
theorem SkB.late (B : SkB P w K CS a dx p sg d wl lt xs ws Pr S s H) {v : V} {L : Option (List Nat)} (h : LtV K H v L) :
    SkB P w K CS a dx p sg d wl v xs ws Pr S ⟨s.C, s.W, L⟩ (upd H a (.ins CS dx (skF p sg d wl v))) ∧ Fr a d wl H (upd H a (.ins CS dx (skF p sg d wl v))) := by
  have t : SameT H (upd H a (.ins CS dx (skF p sg d wl v))) := sameT_ins B.ob
  have nd : d ≠ a := ne_of B.dd B.ob (fun z => nomatch z)
  have nw : wl ≠ a := ne_of B.wl_ B.ob (fun z => nomatch z)
  exact ⟨⟨upd_same, B.pg.sameT t, B.sg_.sameT t, by rw [upd_ne nd]; exact B.dd, B.kk.sameT t, B.cs.sameT t, by rw [upd_ne nw]; exact B.wl_, Paired.mapP B.wk fun _ _ q => q.sameT t, h.sameT t⟩, t, fun b o e h1 _ _ => by rw [upd_ne h1]; exact e⟩
theorem SkB.sto (B : SkB P w K CS a dx p sg d wl lt xs ws Pr S s H) {k : Ky} {kb : Addr} {v : V} {c : Cl} (hk : SqT K H kb ((kyL k).map V.int)) (h : ClV H c v) :
    SkB P w K CS a dx p sg d wl lt (stoX xs (kyL k) kb v) ws Pr S ⟨setC s.C k c, s.W, s.L⟩ (upd H d (DO P w d (stoX xs (kyL k) kb v))) ∧ Fr a d wl H (upd H d (DO P w d (stoX xs (kyL k) kb v))) := by
  have t : SameT H (upd H d (DO P w d (stoX xs (kyL k) kb v))) := sameT_ext B.dd
  have na : a ≠ d := ne_of B.ob B.dd (fun z => nomatch z)
  have nw : wl ≠ d := ne_of B.wl_ B.dd (fun z => nomatch z)
  exact ⟨⟨by rw [upd_ne na]; exact B.ob, B.pg.sameT t, B.sg_.sameT t, upd_same, (keyK_sto B.kk hk).sameT t, CsV.sameT (ent_set B.cs kb h) t, by rw [upd_ne nw]; exact B.wl_, Paired.mapP B.wk fun _ _ q => q.sameT t, B.lt_.sameT t⟩, t,
    fun b o e _ h1 _ => by rw [upd_ne h1]; exact e⟩
theorem SkB.lst (B : SkB P w K CS a dx p sg d wl lt xs ws Pr S s H) {ws' : List V} {W : List Ky} (h : Paired (KyV K H) ws' W) :
    SkB P w K CS a dx p sg d wl lt xs ws' Pr S ⟨s.C, W, s.L⟩ (upd H wl (.lst ws')) ∧ Fr a d wl H (upd H wl (.lst ws')) := by
  have t : SameT H (upd H wl (.lst ws')) := sameT_lst B.wl_
  have na : a ≠ wl := ne_of B.ob B.wl_ (fun z => nomatch z)
  have nd : d ≠ wl := ne_of B.dd B.wl_ (fun z => nomatch z)
  exact ⟨⟨by rw [upd_ne na]; exact B.ob, B.pg.sameT t, B.sg_.sameT t, by rw [upd_ne nd]; exact B.dd, B.kk.sameT t, B.cs.sameT t, upd_same, Paired.mapP h fun _ _ q => q.sameT t, B.lt_.sameT t⟩, t, fun b o e _ _ h1 => by rw [upd_ne h1]; exact e⟩
end
section
variable {P : Program} {w : World} {K : PySem.W.Frag} {mg : Str → Option Value} {base : Heap} {N : List Str} {x : Str} {sc : Scope} {f : Addr} {cdv : Value} {A : Around} {outer : List Env} {s : Shared} {H : Hp} {E : XK}
theorem cxp : (cxOf CX0 P w K mg base N x sc f cdv A outer s H E).nox.prog = P := rfl
theorem cxw : (cxOf CX0 P w K mg base N x sc f cdv A outer s H E).nox.w = w := rfl
theorem cxp2 : (cxOf CX0 P w K mg base N x sc f cdv A outer s H E).prog = P := rfl
theorem cxw2 : (cxOf CX0 P w K mg base N x sc f cdv A outer s H E).w = w := rfl
theorem cxk2 : (cxOf CX0 P w K mg base N x sc f cdv A outer s H E).K = K := rfl
theorem cxk : (cxOf CX0 P w K mg base N x sc f cdv A outer s H E).nox.K = K := rfl
end
def sk0 : Sk := ⟨[(⟨0, 0, 0, 1⟩, ⟨0, 0, [0]⟩)], [⟨0, 0, 0, 1⟩], none⟩
section
variable {P : Program} {w : World} {K : PySem.W.Frag} {mg : Str → Option Value} {base : Heap} {CS : Addr}
def sp_Seeking_init (P : Program) (w : World) (K : PySem.W.Frag) (CS : Addr) : Sp := fun vs H Q _ => ∃ x dx p sg Pr S, vs = [.ref x, .ref p, .ref sg] ∧ H x = some (.ins CS dx []) ∧ PgAt K H p Pr ∧ SgsAt K H sg S ∧
  ∀ H' d wl xs ws, SameT H H' → SkB P w K CS x dx p sg d wl .non xs ws Pr S sk0 H' → Q .non H'
abbrev N_Seeking_init : List Str := ["self", "program", "signs"]
theorem sc_Seeking_init : FnScope N_Seeking_init ["self", "program", "signs"] (defScope s_Seeking_init) := ⟨rfl, rfl, rfl, by decide +kernel, rfl, by decide +kernel, by decide +kernel⟩
theorem mk_Seeking (T : TX K mg) (C : TC K mg CS) : OkI P w K mg base CS 1 ["self", "program", "signs"] (sp_Seeking_init P w K CS) := by
  refine C.d_init.ok sc_Seeking_init (fun _ _ _ _ _ _ us hl => match us, hl with | [_, _, _], _ => rfl) (fun vs H Q E h => ?_) (fun f cdv A outer s H vs Q E hr h => ?_)
  · obtain ⟨_, _, _, _, _, _, rfl, _⟩ := h; rfl
  · obtain ⟨x, dx, p, sg, Pr, S, rfl, hx, hP, hSg, k⟩ := h
    refine ⟨_, (pss_cons (ps_fld (pv 0) (pv 1) rfl)
        (pss_cons (ps_fld (pv 0) (pv 2) rfl)
        (pss_cons (ps_fld (pv 0) (pe_xdisp hr.units0 (pgt T.c_FIRST_KEY rfl) (pe_tup (pa_cons pe_int (pa_cons pe_int (pa_cons (pe_tup (pa_cons pe_int (pa_cons pe_non pa_nil))) pa_nil))))) rfl)
        (pss_cons (ps_fld (pv 0) (pe_lst (pa_cons (pgt T.c_FIRST_KEY rfl) pa_nil)) rfl)
        (pss_one (ps_fld (pv 0) pe_non rfl)))))), ?_⟩
    refine ⟨_, rfl, _, rfl, x, CS, dx, [], rfl, hx, C.cl, C.n_program, (by decide), ?_⟩
    refine ⟨_, rfl, _, rfl, x, CS, dx, _, rfl, upd_same, C.cl, C.n_signs, (by show 1 < 1000; decide), ?_⟩
    have t2 : SameT H (upd (upd H x (.ins CS dx (putF "program" (.ref p) []))) x (.ins CS dx (putF "signs" (.ref sg) (putF "program" (.ref p) [])))) := (sameT_ins hx).trans (sameT_ins upd_same)
    have x2 : (upd (upd H x (.ins CS dx (putF "program" (.ref p) []))) x (.ins CS dx (putF "signs" (.ref sg) (putF "program" (.ref p) [])))) x = some (.ins CS dx [("program", .ref p), ("signs", .ref sg)]) := upd_same
    generalize (upd (upd H x (.ins CS dx (putF "program" (.ref p) []))) x (.ins CS dx (putF "signs" (.ref sg) (putF "program" (.ref p) [])))) = H2 at t2 x2 ⊢
    refine fun d hd fk hfk => ⟨(by show 2 ≤ sizeLine; decide), fun i hi => ⟨(by show 3 ≤ sizeLine; decide), fun q hq => ?_⟩⟩
    have d4 : (upd (upd (upd H2 d (DO P w d [])) i (.tup [.int 0, .non])) q (.tup [.int 0, .int 0, .ref i])) d = some (DO P w d []) := same_new hq _ _ (same_new hi _ _ upd_same)
    have i4 : (upd (upd (upd H2 d (DO P w d [])) i (.tup [.int 0, .non])) q (.tup [.int 0, .int 0, .ref i])) i = some (.tup [.int 0, .non]) := same_new hq _ _ upd_same
    have q4 : (upd (upd (upd H2 d (DO P w d [])) i (.tup [.int 0, .non])) q (.tup [.int 0, .int 0, .ref i])) q = some (.tup [.int 0, .int 0, .ref i]) := upd_same
    have s4 : Same H2 (upd (upd (upd H2 d (DO P w d [])) i (.tup [.int 0, .non])) q (.tup [.int 0, .int 0, .ref i])) := ((same_new hd).trans (same_new hi)).trans (same_new hq)
    refine ⟨_, fk, kyL ⟨0, 0, 0, 1⟩, rfl, d4, hfk _, ?_⟩
    simp only [cxp, cxw, cxk, cxp2, cxw2, cxk2]
    generalize (upd (upd (upd H2 d (DO P w d [])) i (.tup [.int 0, .non])) q (.tup [.int 0, .int 0, .ref i])) = H4 at d4 i4 q4 s4 ⊢
    have t5 : SameT H4 (upd H4 d (DO P w d [(kyL ⟨0, 0, 0, 1⟩, fk, .ref q)])) := sameT_ext d4
    have d5 : (upd H4 d (DO P w d [(kyL ⟨0, 0, 0, 1⟩, fk, .ref q)])) d = some (DO P w d [(kyL ⟨0, 0, 0, 1⟩, fk, .ref q)]) := upd_same
    have nxd : x ≠ d := ne_of (s4 _ _ x2) d4 (fun z => nomatch z)
    have x5 : (upd H4 d (DO P w d [(kyL ⟨0, 0, 0, 1⟩, fk, .ref q)])) x = some (.ins CS dx [("program", .ref p), ("signs", .ref sg)]) := by rw [upd_ne nxd]; exact s4 _ _ x2
    refine ⟨_, rfl, x, CS, dx, _, rfl, x5, C.cl, C.n_cells, (by show 2 < 1000; decide), ?_⟩
    have t6 : SameT (upd H4 d (DO P w d [(kyL ⟨0, 0, 0, 1⟩, fk, .ref q)])) (upd (upd H4 d (DO P w d [(kyL ⟨0, 0, 0, 1⟩, fk, .ref q)])) x (.ins CS dx (putF "cells" (.ref d) [("program", .ref p), ("signs", .ref sg)]))) := sameT_ins x5
    have x6 : (upd (upd H4 d (DO P w d [(kyL ⟨0, 0, 0, 1⟩, fk, .ref q)])) x (.ins CS dx (putF "cells" (.ref d) [("program", .ref p), ("signs", .ref sg)]))) x = some (.ins CS dx [("program", .ref p), ("signs", .ref sg), ("cells", .ref d)]) := upd_same
    have d6 : (upd (upd H4 d (DO P w d [(kyL ⟨0, 0, 0, 1⟩, fk, .ref q)])) x (.ins CS dx (putF "cells" (.ref d) [("program", .ref p), ("signs", .ref sg)]))) d = some (DO P w d [(kyL ⟨0, 0, 0, 1⟩, fk, .ref q)]) := by rw [upd_ne nxd.symm]; exact d5
    have t46 := t5.trans t6
    generalize (upd (upd H4 d (DO P w d [(kyL ⟨0, 0, 0, 1⟩, fk, .ref q)])) x (.ins CS dx (putF "cells" (.ref d) [("program", .ref p), ("signs", .ref sg)]))) = H6 at x6 d6 t46 ⊢
    refine fun fk2 hfk2 => ⟨(by show 1 ≤ sizeLine; decide), fun wl hwl => ?_⟩
    have s7 := same_new (o := .lst [V.ref fk2]) hwl
    have nxw : x ≠ wl := ne_of_none x6 hwl
    have ndw : d ≠ wl := ne_of_none d6 hwl
    refine ⟨_, rfl, x, CS, dx, _, rfl, s7 _ _ x6, C.cl, C.n_waiting, (by show 3 < 1000; decide), ?_⟩
    refine ⟨_, rfl, x, CS, dx, _, rfl, upd_same, C.cl, C.n_late, (by show 4 < 1000; decide), ?_⟩
    have t67 := (sameT_of s7).trans ((sameT_ins (s7 _ _ x6) : SameT _ (upd _ x (.ins CS dx (putF "waiting" (.ref wl) [("program", .ref p), ("signs", .ref sg), ("cells", .ref d)])))).trans (sameT_ins upd_same : SameT _ (upd _ x (.ins CS dx (putF "late" .non (putF "waiting" (.ref wl) [("program", .ref p), ("signs", .ref sg), ("cells", .ref d)]))))))
    have tt := t2.trans ((sameT_of s4).trans (t46.trans t67))
    refine k _ d wl _ [.ref fk2] tt ⟨upd_same, hP.sameT tt, hSg.sameT tt, by rw [upd_ne nxd.symm, upd_ne nxd.symm, upd_ne ndw]; exact d6, fun y hy => ?_, ?_, by rw [upd_ne nxw.symm, upd_ne nxw.symm]; exact upd_same, .cons ⟨fk2, rfl, hfk2 _⟩ .nil, rfl⟩
    · obtain rfl := List.mem_singleton.mp hy
      exact hfk _
    · exact .cons ⟨rfl, q, _, rfl, (t46.trans t67).tup _ _ q4, i, .non, rfl, (t46.trans t67).tup _ _ i4, rfl⟩ .nil
end

section
variable {P : Program} {w : World} {K : PySem.W.Frag} {mg : Str → Option Value} {base : Heap} {CS : Addr}
def sp_Seeking_put (P : Program) (w : World) (K : PySem.W.Frag) (CS : Addr) : Sp := fun vs H Q _ => ∃ a dx p sg d wl lt xs ws Pr S s k kb e l wv v, vs = [.ref a, .ref kb, .int e, .int l, wv] ∧ SkB P w K CS a dx p sg d wl lt xs ws Pr S s H ∧
  SqT K H kb ((kyL k).map V.int) ∧ WayAt H wv v ∧ v.length ≤ 60 ∧ s.C.length ≤ 10000 ∧ s.W.length ≤ 300000 ∧ (∀ c, lookC s.C k = some c → c.w.length ≤ 60) ∧
  ∀ H' lt' xs' ws', Fr a d wl H H' → SkB P w K CS a dx p sg d wl lt' xs' ws' Pr S (putS s k e l v) H' → Q .non H'
theorem clV_at {H : Hp} {C : List (Ky × Cl)} {xs : List DEnt} {k : Ky} (h : CsV H C xs) : (lookC C k = none ∧ (atX xs (kyL k)).getD .non = .non) ∨ ∃ c v, lookC C k = some c ∧ (atX xs (kyL k)).getD .non = v ∧ atX xs (kyL k) = some v ∧ ClV H c v := by
  cases e : lookC C k with
  | none => exact .inl ⟨rfl, by rw [ent_none h e]; rfl⟩
  | some c =>
    obtain ⟨v, h1, h2⟩ := ent_some h e
    exact .inr ⟨c, v, rfl, by rw [h1]; rfl, h1, h2⟩
abbrev N_Seeking_put : List Str := ["self", "key", "early", "late", "way", "old", "new"]
theorem sc_Seeking_put : FnScope N_Seeking_put ["self", "key", "early", "late", "way"] (defScope s_Seeking_put) := ⟨rfl, rfl, rfl, by decide +kernel, rfl, by decide +kernel, by decide +kernel⟩
theorem ok_Seeking_put (T : TX K mg) (C : TC K mg CS) : OkM P w K mg base CS 2 "put" ["self", "key", "early", "late", "way"] (sp_Seeking_put P w K CS) := by
  refine C.d_put.ok sc_Seeking_put (fun _ _ _ _ _ _ us hl => match us, hl with | [_, _, _, _, _], _ => rfl) (fun vs H Q E h => ?_) (fun f cdv A outer s H vs Q E hr h => ?_)
  · obtain ⟨_, _, _, _, _, _, _, _, _, _, _, _, _, _, _, _, _, _, rfl, _⟩ := h; rfl
  · obtain ⟨a, dx, p, sg, d, wl, lt, xs, ws, Pr, S, s, ky, kb, e, l, wv, v, rfl, B, hkb, hwv, hv60, hC, hW, hold, k⟩ := h
    refine ⟨_, (C8.pss_cut (ps_if (pt_cmpR op_gt (pv 3) (pgi T.i_MOST_BEAT rfl) (nomark _)) (pss_one (ps_fld (pv 0) (pcall (ok_rows_of_way T) (hr.mono (by decide)) rfl (pa_cons (pv 4) pa_nil)) rfl)) pss_nil)
        (pss_cons (ps_set (i := 5) sc_Seeking_put.nd rfl (Or.inl rfl) (pe_xget1 (hu_of hr) (pe_fld (pv 0) rfl) (pv 1) ⟨rfl, rfl, rfl, rfl⟩))
        (C8.pss_cut (ps_if (pt_cmp (pc_isN (pv 5))) (pss_one (ps_set (i := 6) sc_Seeking_put.nd rfl (Or.inl rfl) (pe_tup (pa_cons (pv 2) (pa_cons (pv 3) (pa_cons (pv 4) pa_nil)))))) (pss_cons (ps_set (i := 6) sc_Seeking_put.nd rfl (Or.inl rfl) (pe_tup (pa_cons (pe_callB (call_min2 rfl) rfl T.n_min (by decide +kernel) (pa_cons (pv 2) (pa_cons (pe_ix ix_tup (pv 5) pe_int (fun _ _ => rfl)) pa_nil))) (pa_cons (pe_ix ix_tup (pv 5) pe_int (fun _ _ => rfl)) (pa_cons (pe_ix ix_tup (pv 5) pe_int (fun _ _ => rfl)) pa_nil)))))
          (pss_one (ps_if (pt_cmpR op_gt (pv 3) (pe_ix ix_tup (pv 5) pe_int (fun _ _ => rfl)) (nomark _)) (pss_one (ps_set (i := 6) sc_Seeking_put.nd rfl (Or.inl rfl) (pe_tup (pa_cons (pe_ix ix_tup (pv 6) pe_int (fun _ _ => rfl)) (pa_cons (pv 3) (pa_cons (pv 4) pa_nil)))))) pss_nil))))
        (pss_one (ps_if (pt_cmpR (op_neD hr.units) (pv 6) (pv 5) (nomark _)) (pss_cons (ps_xput (hu_of hr) (pe_fld (pv 0) rfl) (pv 1) (pv 6) rfl)
          (pss_one (ps_expr (pe_bm PySem.F.plainAttrs_list PySem.F.slot_list_append PySem.F.type_list_append mt_append (pe_fld (pv 0) rfl) (pa_cons (pv 1) pa_nil))))) pss_nil))))), ?_⟩
    refine ⟨fun σ' H' => ∃ lt', σ' = [some (.ref a), some (.ref kb), some (.int e), some (.int l), some wv, none, none] ∧ Fr a d wl H H' ∧ SkB P w K CS a dx p sg d wl lt' xs ws Pr S ⟨s.C, s.W, if 30 < l then some v.reverse else s.L⟩ H', ⟨_, rfl, _, _, rfl, rfl, _, rfl, ite_b (fun e1 => ?_) fun e1 => ?_⟩, ?_⟩
    · have hl : 30 < l := of_decide_eq_true e1
      refine ⟨_, rfl, wv, v, rfl, hwv, by omega, fun H1 q s1 hq => ⟨_, rfl, a, CS, dx, _, rfl, s1 _ _ B.ob, C.cl, C.n_late, (by show 5 < 1000; decide), ?_⟩⟩
      have z := (B.same s1).late (v := .ref q) (L := if 30 < l then some v.reverse else s.L) (by rw [if_pos hl]; exact ⟨q, rfl, hq⟩)
      exact ⟨_, rfl, (Fr.of s1).trans z.2, z.1⟩
    · have hl : ¬ 30 < l := of_decide_eq_false e1
      refine ⟨lt, rfl, Fr.of (Same.refl H), ?_⟩
      rw [if_neg hl]
      exact B
    rintro σ' H1 ⟨lt1, rfl, F1, B1⟩
    refine ⟨_, rfl, a, CS, dx, _, _, rfl, B1.ob, C.cl, C.n_cells, rfl, d, rfl, ⟨xs, B1.dd, B1.kk⟩, _, rfl, kb, xs, kyL ky, rfl, B1.dd, B1.kk, sameT_sqT F1.t hkb, ?_⟩
    have hwv1 := hwv.sameT F1.t
    refine ⟨fun σ' H' => ∃ t, σ' = [some (.ref a), some (.ref kb), some (.int e), some (.int l), some wv, some ((atX xs (kyL ky)).getD .non), some (.ref t)] ∧ Same H1 H' ∧ ClV H' (newC (lookC s.C ky) e l v) (.ref t), ?_, ?_⟩
    · rcases clV_at (k := ky) B1.cs with ⟨h1, h2⟩ | ⟨c, o, h1, h2, h3, q, ov, rfl, hq, hov⟩
      · rw [h1, h2]
        refine ⟨_, rfl, true, rfl, iteT ?_⟩
        exact ⟨_, rfl, _, rfl, _, rfl, (by show 3 ≤ sizeLine; decide), fun t ht => ⟨t, rfl, same_new ht, t, wv, rfl, upd_same, hwv1.sameT (sameT_of (same_new ht))⟩⟩
      · rw [h1, h2]
        refine ⟨_, rfl, false, rfl, iteF ?_⟩
        refine ⟨_, rfl, _, rfl, q, _, _, _, rfl, rfl, SqT.of hq, rfl, _, _, rfl, _, rfl, q, _, _, _, rfl, rfl, SqT.of hq, rfl, _, rfl, q, _, _, _, rfl, rfl, SqT.of hq, rfl, (by show 3 ≤ sizeLine; decide), fun t ht => ?_⟩
        have s2 := same_new (o := .tup [.int (if c.e < e then c.e else e), .int c.l, ov]) ht
        refine ⟨_, rfl, _, rfl, q, _, _, _, rfl, rfl, SqT.of (s2 _ _ hq), rfl, _, _, rfl, rfl, _, rfl, ite_b (fun e2 => ?_) fun e2 => ?_⟩
        · have hl : c.l < l := of_decide_eq_true e2
          refine ⟨_, rfl, t, _, _, _, rfl, rfl, SqT.of upd_same, rfl, _, rfl, _, rfl, (by show 3 ≤ sizeLine; decide), fun t2 ht2 => ⟨t2, rfl, s2.trans (same_new ht2), t2, wv, rfl, ?_, ?_⟩⟩
          · unfold newC
            simp only [if_pos hl]
            exact upd_same
          · unfold newC
            simp only [if_pos hl]
            exact hwv1.sameT (sameT_of (s2.trans (same_new ht2)))
        · have hl : ¬ c.l < l := of_decide_eq_false e2
          refine ⟨t, rfl, s2, t, ov, rfl, ?_, ?_⟩
          · unfold newC
            simp only [if_neg hl]
            exact upd_same
          · unfold newC
            simp only [if_neg hl]
            exact hov.sameT (sameT_of s2)
    rintro σ' H2 ⟨t, rfl, s2, hn⟩
    have B2 := B1.same s2
    have F2 := F1.trans (Fr.of s2)
    have hn60 : (newC (lookC s.C ky) e l v).w.length ≤ 60 := by
      rcases new_cl (o := lookC s.C ky) (e := e) (l := l) (w := v) with ⟨_, h3⟩ | ⟨c2, h2, _, h4⟩
      · rw [h3]; exact hv60
      · rw [h4]; exact hold c2 h2
    have hput : ∀ b, b = isNew (lookC s.C ky) (newC (lookC s.C ky) e l v) → ∃ D E, Dp K H2 (.ref t) D ∧ Dp K H2 ((atX xs (kyL ky)).getD .non) E ∧ SeqAt.shaped D = true ∧ SeqAt.shaped E = true ∧ (!PyData.eqv D E) = b := fun b hb => by
      subst hb
      rcases clV_at (k := ky) B2.cs with ⟨h1, h2⟩ | ⟨c, o, h1, h2, h3, h4⟩
      · refine ⟨clD _, .none, Dp.cl hn, by rw [h2]; exact .non, cl_shaped hn60, by decide, ?_⟩
        show (!PyData.eqv (.tuple _) .none) = _
        rw [h1]
        simp only [PyData.eqv]
        rfl
      · refine ⟨clD _, clD c, Dp.cl hn, by rw [h2]; exact Dp.cl h4, cl_shaped hn60, cl_shaped (hold c h1), ?_⟩
        rw [cl_eqv, h1]
        · rfl
        · rw [h1]
          by_cases h5 : (newC (some c) e l v).e = c.e ∧ (newC (some c) e l v).l = c.l
          · left
            have : isNew (some c) (newC (some c) e l v) = false := by unfold isNew; simp [h5.1, h5.2]
            have := new_not this
            exact congrArg Cl.w (Option.some.inj this).symm
          · exact .inr h5
    obtain ⟨D, E, hD, hE, sD, sE, hDE⟩ := hput _ rfl
    refine ⟨_, rfl, _, rfl, D, E, hD, hE, sD, sE, _, rfl, ?_⟩
    rw [hDE]
    unfold putS at k
    cases hN : isNew (lookC s.C ky) (newC (lookC s.C ky) e l v) with
    | true =>
      rw [hN, if_pos rfl, if_pos rfl] at k
      have hxl : s.C.length = xs.length := Paired.length B2.cs
      have hwl : ws.length = s.W.length := Paired.length B2.wk
      have B3 := B2.sto (k := ky) (kb := kb) (sameT_sqT F2.t hkb) hn
      refine iteT ⟨_, rfl, _, rfl, a, CS, dx, _, _, rfl, B2.ob, C.cl, C.n_cells, rfl, _, rfl, d, kb, xs, kyL ky, rfl, rfl, B2.dd, B2.kk, sameT_sqT F2.t hkb, by rw [sizeLine_eq]; omega, ?_⟩
      have B4 := B3.1.lst (ws' := ws ++ [.ref kb]) (W := s.W ++ [ky]) (Paired.snoc B3.1.wk ⟨kb, rfl, sameT_sqT (F2.t.trans B3.2.t) hkb⟩)
      refine ⟨_, rfl, a, CS, dx, _, _, rfl, B3.1.ob, C.cl, C.n_waiting, rfl, .inl ⟨rfl, _, SqL.of B3.1.wl_⟩, _, rfl, wl, ws, _, rfl, rfl, B3.1.wl_, by rw [sizeLine_eq]; omega, ?_⟩
      exact k _ _ _ _ ((F2.trans B3.2).trans B4.2) B4.1
    | false =>
      rw [hN, if_neg Bool.false_ne_true, if_neg Bool.false_ne_true] at k
      exact iteF (k _ _ _ _ F2 B2)
end

section
variable {Pr : Pg} {S : List Sg} {U : List Ky}
theorem SkI.len {s : Sk} (I : SkI Pr S U s) (h : U.length ≤ 1000) : s.C.length ≤ 1000 := by
  have q := nodup_len (l := s.C.map (·.1)) (m := U) I.nd fun x hx => by
    obtain ⟨p, hp, rfl⟩ := List.mem_map.mp hx
    exact I.cU p hp
  rw [List.length_map] at q
  exact Nat.le_trans q h
theorem SkI.way60 {s : Sk} (I : SkI Pr S U s) {k : Ky} {c : Cl} (h : lookC s.C k = some c) : c.w.length ≤ 60 := by
  obtain ⟨_, _, h3, _, _, h4⟩ := I.ce k c h
  have := h4.len
  omega
theorem wait_eq {i : Nat} {r : Rw} (h : Pr[i]? = some r) : waitAt Pr i = eqS r.d "wait" := by
  unfold waitAt
  rw [h]
end
section
variable {P : Program} {w : World} {K : PySem.W.Frag} {mg : Str → Option Value} {base : Heap} {CS : Addr}
def sp_Seeking_go_on (P : Program) (w : World) (K : PySem.W.Frag) (CS : Addr) : Sp := fun vs H Q _ => ∃ a dx p sg d wl lt xs ws Pr S U s, vs = [.ref a] ∧ SkB P w K CS a dx p sg d wl lt xs ws Pr S s H ∧
  Fl Pr S U ∧ SkI Pr S U s ∧ Clo Pr S (fun _ _ => True) s ∧ s.L = none ∧ 0 < s.W.length ∧ muS U s ≤ 300000 ∧
  ∀ H' s' lt' xs' ws', Fr a d wl H H' → SkB P w K CS a dx p sg d wl lt' xs' ws' Pr S s' H' → SkI Pr S U s' → Clo Pr S (fun _ _ => True) s' → muS U s' < muS U s → Q .non H'
abbrev N_Seeking_go_on : List Str := ["self", "key", "early", "late", "way", "other", "least", "most"]
theorem sc_Seeking_go_on : FnScope N_Seeking_go_on ["self"] (defScope s_Seeking_go_on) := ⟨rfl, rfl, rfl, by decide +kernel, rfl, by decide +kernel, by decide +kernel⟩
theorem ok_Seeking_go_on (T : TX K mg) (C : TC K mg CS) : OkM P w K mg base CS 6 "go_on" ["self"] (sp_Seeking_go_on P w K CS) := by
  refine C.d_go_on.ok sc_Seeking_go_on (fun _ _ _ _ _ _ us hl => match us, hl with | [_], _ => rfl) (fun vs H Q E h => ?_) (fun f cdv A outer s H vs Q E hr h => ?_)
  · obtain ⟨_, _, _, _, _, _, _, _, _, _, _, _, _, rfl, _⟩ := h; rfl
  · obtain ⟨a, dx, p, sg, d, wl, lt, xs, ws, Pr, S, U, s, rfl, B, FL, I, hClo, hL, hpos, hmu, k⟩ := h
    refine ⟨_, (pss_cons (ps_set (i := 1) sc_Seeking_go_on.nd rfl (Or.inl rfl) (pe_bm0 PySem.F.plainAttrs_list PySem.F.slot_list_pop PySem.F.type_list_pop mt_pop (pe_fld (pv 0) rfl)))
        (pss_cons (ps_asg (pe_xget (hu_of hr) (pe_fld (pv 0) rfl) (pv 1) (fun _ _ => rfl)) (pg_tup rfl (pgs_cons (pg_name (i := 2) sc_Seeking_go_on.nd rfl (Or.inl rfl)) (pgs_cons (pg_name (i := 3) sc_Seeking_go_on.nd rfl (Or.inl rfl)) (pgs_cons (pg_name (i := 4) sc_Seeking_go_on.nd rfl (Or.inl rfl)) pgs_nil)))))
        (pss_one (ps_for PassesOwn.never rfl (pi_list (pcall (ok_keys_behind T) (hr.mono (by decide)) rfl (pa_cons (pe_fld (pv 0) rfl) (pa_cons (pe_fld (pv 0) rfl) (pa_cons (pv 1) pa_nil))))) (pg_tup rfl (pgs_cons (pg_name (i := 5) sc_Seeking_go_on.nd rfl (Or.inl rfl)) (pgs_cons (pg_name (i := 6) sc_Seeking_go_on.nd rfl (Or.inl rfl)) (pgs_cons (pg_name (i := 7) sc_Seeking_go_on.nd rfl (Or.inl rfl)) pgs_nil)))) (pss_one (ps_if (pt_cmpR op_eq (pe_ix ix_tup (pe_ix ix_tup (pe_fld (pv 0) rfl) (pe_ix ix_tup (pv 1) pe_int (fun _ _ => rfl)) (fun _ _ => rfl)) pe_int (fun _ _ => rfl)) pe_str (nomark _)) (pss_one (ps_expr (pmeth (ok_Seeking_put T C) C.cl (hr.mono (by decide)) (pv 0) (pa_cons (pv 5) (pa_cons pe_int (pa_cons pe_int (pa_cons (pe_tup (pa_cons (pe_ix ix_tup (pv 5) pe_int (fun _ _ => rfl)) (pa_cons pe_non pa_nil))) pa_nil))))))) (pss_one (ps_expr (pmeth (ok_Seeking_put T C) C.cl (hr.mono (by decide)) (pv 0) (pa_cons (pv 5) (pa_cons (pe_op op_add (pv 2) (pv 6)) (pa_cons (pe_op op_add (pv 3) (pv 7)) (pa_cons (pe_tup (pa_cons (pe_ix ix_tup (pv 5) pe_int (fun _ _ => rfl)) (pa_cons (pv 4) pa_nil))) pa_nil))))))))))))), ?_⟩
    have hwlen : ws.length = s.W.length := Paired.length B.wk
    obtain ⟨v, hv⟩ := last_some (l := ws) (by omega)
    obtain ⟨ky, hky, kb, rfl, hkb⟩ := paired_atL B.wk hv
    have hkU : ky ∈ s.W := List.mem_of_getElem? hky
    obtain ⟨c0, hc0⟩ := I.wC ky hkU
    obtain ⟨i1, i2, i3, i4, i5, i6⟩ := I.ce ky c0 hc0
    have Z : C0 Pr S U ky c0 := ⟨I.wU ky hkU, i1, i2, i4 hL, i5, i6⟩
    obtain ⟨R, r, RO⟩ := FL.ok ky Z.kU
    have hWd : s.W = s.W.dropLast ++ [ky] := drop_last_eq (by rw [← hwlen]; exact hky)
    have M0 := pop_mid I hClo hWd hc0
    obtain ⟨B1, F1⟩ := B.lst (ws' := ws.dropLast) (W := s.W.dropLast) (paired_drop B.wk)
    have B1 : SkB P w K CS a dx p sg d wl lt xs ws.dropLast Pr S (pop s) _ := B1
    refine ⟨_, rfl, a, CS, dx, _, _, rfl, B.ob, C.cl, C.n_waiting, rfl, .inl ⟨rfl, _, SqL.of B.wl_⟩, wl, ws, _, rfl, rfl, B.wl_, hv, ?_⟩
    generalize upd H wl (.lst ws.dropLast) = H1 at B1 F1 ⊢
    have hkb1 := sameT_sqT F1.t hkb
    obtain ⟨_, hat, q, wv, rfl, hq, hwv⟩ := ent_some B1.cs hc0
    refine ⟨_, rfl, a, CS, dx, _, _, rfl, B1.ob, C.cl, C.n_cells, rfl, _, rfl, d, kb, xs, kyL ky, .ref q, rfl, rfl, B1.dd, B1.kk, hkb1, hat, q, _, rfl, SqT.of hq, rfl, _, _, rfl, _, _, rfl, _, _, rfl, rfl, ?_⟩
    refine ⟨_, rfl, a, CS, dx, _, _, rfl, B1.ob, C.cl, C.n_program, rfl, _, rfl, a, CS, dx, _, _, rfl, B1.ob, C.cl, C.n_signs, rfl, _, rfl, p, sg, Pr, S, ky, kb, r, rfl, B1.pg, FL.pl, B1.sg_, hkb1, R, RO, fun H2 pl vs L s2 hpn hpl hvs hL2 hmem => ?_⟩
    have npa : pl ≠ a := (ne_of_none B1.ob hpn).symm
    have npd : pl ≠ d := (ne_of_none B1.dd hpn).symm
    have npw : pl ≠ wl := (ne_of_none B1.wl_ hpn).symm
    have hvl : vs.length = L.length := Paired.length hvs
    refine ⟨pl, rfl, ⟨_, SqL.of hpl⟩, for_list (K := K) (a := pl) (xs := vs) (fun j σ H3 => ∃ s3 lt3 xs3 ws3 o1 o2 o3, σ = [some (.ref a), some (.ref kb), some (.int c0.e), some (.int c0.l), some wv, o1, o2, o3] ∧ Fr a d wl H1 H3 ∧ SameT H2 H3 ∧ H3 pl = some (.lst vs) ∧
        SkB P w K CS a dx p sg d wl lt3 xs3 ws3 Pr S s3 H3 ∧ Mid Pr S U ky c0 (L.take j) s3 ∧ muS U s3 ≤ muS U (pop s))
      ⟨pop s, lt, xs, ws.dropLast, none, none, none, rfl, Fr.of s2, ⟨fun _ _ h => h, fun _ _ _ h => h⟩, hpl, B1.same s2, M0, Nat.le_refl _⟩ (fun j σ H3 _ ⟨_, _, _, _, _, _, _, _, _, _, h, _⟩ => SqL.of h) ?_ ?_⟩
    · rintro j v σ H3 hj ⟨s3, lt3, xs3, ws3, o1, o2, o3, rfl, F3, t3, hpl3, B3, M3, hmu3⟩
      obtain ⟨c, hc, bb, kb2, rfl, hbb, hkb2⟩ := paired_atL hvs hj
      have hm := (hmem c).mp (List.mem_of_getElem? hc)
      have hkb23 : SqT K H3 kb2 ((kyL c.key).map V.int) := SqT.of (t3.tup _ _ hkb2)
      obtain ⟨rs, rb, hpr3, hbr, hrow3⟩ := B3.pg.at RO.at_
      have hC3 := M3.I.len FL.len
      have hW3 : s3.W.length ≤ 300000 := by
        have : s3.W.length ≤ muS U s3 := Nat.le_add_left _ _
        have h2 : muS U (pop s) ≤ muS U s := by
          unfold muS pop
          simp only [List.length_dropLast]
          omega
        omega
      obtain ⟨z1, z2⟩ := Mid.put FL Z hm M3 (D2 := L.take (j + 1)) fun x hx => by
        rw [take_snoc hc] at hx
        rcases List.mem_append.mp hx with hx | hx
        · exact .inl hx
        · exact .inr (List.mem_singleton.mp hx)
      have hgo := go_ok FL Z hm
      have hwl60 : (goW Pr ky c0 c).length ≤ 60 := by
        have := hgo.2.2.2.2.2.len
        have := hgo.2.2.2.1
        omega
      have hold := fun c' (h : lookC s3.C c.key = some c') => M3.I.way60 h
      refine ⟨bb, _, rfl, SqT.of (t3.tup _ _ hbb), rfl, _, _, rfl, _, _, rfl, _, _, rfl, rfl, ?_⟩
      refine ⟨_, rfl, a, CS, dx, _, _, rfl, B3.ob, C.cl, C.n_program, rfl, _, rfl, kb, _, _, _, rfl, rfl, sameT_sqT F3.t hkb1, rfl, p, _, _, _, rfl, rfl, hpr3, nat_at hbr, rb, _, _, _, rfl, rfl, hrow3, rfl, rfl, _, rfl, ite_b (fun e2 => ?_) fun e2 => ?_⟩
      · have hwt : waitAt Pr ky.r = true := (wait_eq RO.at_).trans e2
        have g1 : goE Pr ky c0 c = 0 := by unfold goE; rw [if_pos hwt]
        have g2 : goL Pr ky c0 c = 0 := by unfold goL; rw [if_pos hwt]
        have g3 : goW Pr ky c0 c = [c.r] := by unfold goW; rw [if_pos hwt]
        rw [g1, g2, g3] at z1 z2
        refine ⟨_, rfl, a, dx, _, rfl, B3.ob, rfl, _, rfl, _, rfl, kb2, _, _, _, rfl, rfl, hkb23, rfl, (by show 2 ≤ sizeLine; decide), fun t ht => ?_⟩
        have s4 := same_new (o := .tup [.int (c.r : Nat), .non]) ht
        refine ⟨a, dx, p, sg, d, wl, lt3, xs3, ws3, Pr, S, s3, c.key, kb2, 0, 0, .ref t, [c.r], rfl, B3.same s4, same_sqT s4 hkb23, ⟨t, .non, rfl, upd_same, rfl⟩, by show 1 ≤ 60; decide, by omega, hW3, hold, fun H5 lt5 xs5 ws5 F5 B5 => ?_⟩
        exact ⟨_, lt5, xs5, ws5, _, _, _, rfl, (F3.trans (Fr.of s4)).trans F5, (t3.trans (sameT_of s4)).trans F5.t, F5.f _ _ (s4 _ _ hpl3) npa npd npw, B5, z1, Nat.le_trans z2 hmu3⟩
      · have hwt : waitAt Pr ky.r = false := (wait_eq RO.at_).trans e2
        have g1 : goE Pr ky c0 c = c0.e + c.ls := by unfold goE; rw [hwt]; rfl
        have g2 : goL Pr ky c0 c = c0.l + c.ms := by unfold goL; rw [hwt]; rfl
        have g3 : goW Pr ky c0 c = c.r :: c0.w := by unfold goW; rw [hwt]; rfl
        rw [g3] at hwl60
        rw [g1, g2, g3] at z1 z2
        refine ⟨_, rfl, a, dx, _, rfl, B3.ob, rfl, _, rfl, _, rfl, _, rfl, _, _, rfl, rfl, _, rfl, _, rfl, _, _, rfl, rfl, _, rfl, kb2, _, _, _, rfl, rfl, hkb23, rfl, _, rfl, (by show 2 ≤ sizeLine; decide), fun t ht => ?_⟩
        have s4 := same_new (o := .tup [.int (c.r : Nat), wv]) ht
        refine ⟨a, dx, p, sg, d, wl, lt3, xs3, ws3, Pr, S, s3, c.key, kb2, c0.e + c.ls, c0.l + c.ms, .ref t, c.r :: c0.w, rfl, B3.same s4, same_sqT s4 hkb23, ⟨t, wv, rfl, upd_same, hwv.sameT (F3.trans (Fr.of s4)).t⟩, hwl60, by omega, hW3, hold, fun H5 lt5 xs5 ws5 F5 B5 => ?_⟩
        exact ⟨_, lt5, xs5, ws5, _, _, _, rfl, (F3.trans (Fr.of s4)).trans F5, (t3.trans (sameT_of s4)).trans F5.t, F5.f _ _ (s4 _ _ hpl3) npa npd npw, B5, z1, Nat.le_trans z2 hmu3⟩
    · rintro σ H3 ⟨s3, lt3, xs3, ws3, o1, o2, o3, rfl, F3, t3, hpl3, B3, M3, hmu3⟩
      rw [hvl, List.take_length] at M3
      refine k H3 s3 lt3 xs3 ws3 (F1.trans F3) B3 M3.I (M3.all fun m hm => (hmem m).mpr hm) ?_
      have h2 : muS U (pop s) < muS U s := by
        unfold muS pop
        simp only [List.length_dropLast]
        omega
      omega
/-- the seeking's end -/
def SkEnd (Pr : Pg) (S : List Sg) (U : List Ky) (s : Sk) : Prop := SkI Pr S U s ∧ Clo Pr S (fun _ _ => True) s ∧ (s.W = [] ∨ s.L ≠ none)
def sp_Seeking_seek (P : Program) (w : World) (K : PySem.W.Frag) (CS : Addr) : Sp := fun vs H Q _ => ∃ a dx p sg d wl lt xs ws Pr S U s, vs = [.ref a] ∧ SkB P w K CS a dx p sg d wl lt xs ws Pr S s H ∧
  Fl Pr S U ∧ SkI Pr S U s ∧ Clo Pr S (fun _ _ => True) s ∧ muS U s ≤ 300000 ∧
  ∀ H' s' lt' xs' ws', Fr a d wl H H' → SkB P w K CS a dx p sg d wl lt' xs' ws' Pr S s' H' → SkEnd Pr S U s' → Q .non H'
abbrev N_Seeking_seek : List Str := ["self"]
theorem sc_Seeking_seek : FnScope N_Seeking_seek ["self"] (defScope s_Seeking_seek) := ⟨rfl, rfl, rfl, by decide +kernel, rfl, by decide +kernel, by decide +kernel⟩
theorem ok_Seeking_seek (T : TX K mg) (C : TC K mg CS) : OkM P w K mg base CS 7 "seek" ["self"] (sp_Seeking_seek P w K CS) := by
  refine C.d_seek.ok sc_Seeking_seek (fun _ _ _ _ _ _ us hl => match us, hl with | [_], _ => rfl) (fun vs H Q E h => ?_) (fun f cdv A outer s H vs Q E hr h => ?_)
  · obtain ⟨_, _, _, _, _, _, _, _, _, _, _, _, _, rfl, _⟩ := h; rfl
  · obtain ⟨a, dx, p, sg, d, wl, lt, xs, ws, Pr, S, U, s, rfl, B, FL, I, hClo, hmu, k⟩ := h
    refine ⟨_, (pss_one (ps_while PassesOwn.never (PW.pt (pw_and (pt_cmpR op_gt (pe_callB call_len_seq rfl T.n_len (by decide +kernel) (pa_cons (pe_fld (pv 0) rfl) pa_nil)) pe_int (nomark _)) (pw_and1 (pt_cmp (pc_isN (pe_fld (pv 0) rfl)))))) (pss_one (ps_expr (pmeth0 (ok_Seeking_go_on T C) C.cl (hr.mono (by decide)) (pv 0)))))), ?_⟩
    refine ⟨fun m σ H1 => ∃ s1 lt1 xs1 ws1, σ = [some (.ref a)] ∧ Fr a d wl H H1 ∧ SkB P w K CS a dx p sg d wl lt1 xs1 ws1 Pr S s1 H1 ∧ SkI Pr S U s1 ∧ Clo Pr S (fun _ _ => True) s1 ∧ muS U s1 = m ∧ m ≤ 300000, ⟨_, s, lt, xs, ws, rfl, Fr.of (Same.refl H), B, I, hClo, rfl, hmu⟩, ?_⟩
    rintro m σ H1 ⟨s1, lt1, xs1, ws1, rfl, F1, B1, I1, hC1, hm, hm3⟩
    have hwlen : ws1.length = s1.W.length := Paired.length B1.wk
    refine ⟨_, rfl, a, CS, dx, _, _, rfl, B1.ob, C.cl, C.n_waiting, rfl, wl, ws1, rfl, .inl (SqL.of B1.wl_), _, _, rfl, rfl, _, rfl, ite_b (fun e => ?_) fun e => ?_⟩
    · have hpos : 0 < s1.W.length := by have := of_decide_eq_true e; omega
      refine ⟨_, rfl, a, CS, dx, _, _, rfl, B1.ob, C.cl, C.n_late, rfl, _, rfl, ite_b (fun e2 => ?_) fun e2 => ?_⟩
      · have hlt : lt1 = .non := of_decide_eq_true e2
        have hL : s1.L = none := by
          have := B1.lt_
          rw [hlt] at this
          cases h : s1.L with
          | none => rfl
          | some l =>
            rw [h] at this
            obtain ⟨p, hp, _⟩ := this
            cases hp
        refine ⟨fun σ' H' => ∃ m', m' < m ∧ ∃ s1 lt1 xs1 ws1, σ' = [some (.ref a)] ∧ Fr a d wl H H' ∧ SkB P w K CS a dx p sg d wl lt1 xs1 ws1 Pr S s1 H' ∧ SkI Pr S U s1 ∧ Clo Pr S (fun _ _ => True) s1 ∧ muS U s1 = m' ∧ m' ≤ 300000, fun _ _ h => h, ?_⟩
        exact ⟨_, rfl, a, dx, _, rfl, B1.ob, rfl, a, dx, p, sg, d, wl, lt1, xs1, ws1, Pr, S, U, s1, rfl, B1, FL, I1, hC1, hL, hpos, by omega, fun H2 s2 lt2 xs2 ws2 F2 B2 I2 hC2 hmu2 => ⟨_, by omega, s2, lt2, xs2, ws2, rfl, F1.trans F2, B2, I2, hC2, rfl, by omega⟩⟩
      · have hlt : lt1 ≠ .non := of_decide_eq_false e2
        refine k H1 s1 lt1 xs1 ws1 F1 B1 ⟨I1, hC1, .inr fun h => hlt ?_⟩
        have := B1.lt_
        rw [h] at this
        exact this
    · refine k H1 s1 lt1 xs1 ws1 F1 B1 ⟨I1, hC1, .inl ?_⟩
      have : ¬ (0 : Int) < ((ws1.length : Nat) : Int) := of_decide_eq_false e
      exact List.eq_nil_of_length_eq_zero (by omega)
end

theorem catA_of {K : PySem.W.Frag} {a b : Addr} {xs ys : List V} {H : Hp} {Q : VK} (ha : SqT K H a xs) (hb : SqT K H b ys) (hl : xs.length + ys.length ≤ 1000) (k : ∀ p H', Same H H' → SqT K H' p (xs ++ ys) → Q (.ref p) H') : rCatA K (.ref a) (.ref b) H Q :=
  ⟨a, b, xs, ys, rfl, rfl, ha, hb, by rw [sizeLine_eq]; omega, fun e => k b H (Same.refl H) (by rw [e]; exact hb), fun _ e => k a H (Same.refl H) (by rw [e, List.append_nil]; exact ha), fun _ _ p hp => k p _ (same_new hp) (SqT.of upd_same)⟩
theorem noPart {σ : L2.St} {H : Hp} {Q : Option Int → Hp → Prop} (h : Q none H) : tNoPart σ H Q := h
theorem list_choose {α β : Type} : ∀ (ys : List α) (R : Nat → α → β → Prop), (∀ (i : Nat) (y : α), ys[i]? = some y → ∃ L, R i y L) → ∃ out : List β, out.length = ys.length ∧ ∀ (i : Nat) (y : α) (L : β), ys[i]? = some y → out[i]? = some L → R i y L
  | [], _, _ => ⟨[], rfl, fun i y L e _ => by simp at e⟩
  | y :: ys, R, h => by
    obtain ⟨L, hL⟩ := h 0 y rfl
    obtain ⟨out, h1, h2⟩ := list_choose ys (fun i => R (i + 1)) (fun i y e => h (i + 1) y (by simpa using e))
    refine ⟨L :: out, by rw [List.length_cons, List.length_cons, h1], fun i y' L' e1 e2 => ?_⟩
    cases i with
    | zero =>
      cases e1
      cases e2
      exact hL
    | succ i => exact h2 i y' L' (by simpa using e1) (by simpa using e2)
theorem paired_pairwise {α β : Type} {F : α → β → Prop} {R : β → β → Prop} {zs : List α} {L : List β} (h : Paired F zs L) (p : zs.Pairwise fun x y => ∀ n m, F x n → F y m → R n m) : L.Pairwise R := by
  induction h with
  | nil => exact .nil
  | @cons z n zs L r t ih =>
    obtain ⟨h1, h2⟩ := List.pairwise_cons.mp p
    refine List.pairwise_cons.mpr ⟨fun m hm => ?_, ih h2⟩
    obtain ⟨i, hi⟩ := List.getElem?_of_mem hm
    obtain ⟨y, hy, hF⟩ := paired_atR t hi
    exact h1 y (List.mem_of_getElem? hy) n m r hF
def cell5 (p : Ky × Cl) : List Int := [p.1.lo, p.1.hi, p.1.z, p.2.e, p.2.l]
def rowsOf (C : List (Ky × Cl)) (i : Nat) : List (List Int) := (C.filter fun p => decide (p.1.r = i)).map cell5
theorem rowsOf_snoc (C : List (Ky × Cl)) (p : Ky × Cl) (i : Nat) : rowsOf (C ++ [p]) i = if p.1.r = i then rowsOf C i ++ [cell5 p] else rowsOf C i := by
  unfold rowsOf
  rw [List.filter_append, List.map_append]
  by_cases h : p.1.r = i
  · rw [if_pos h, List.filter_cons_of_pos (by simp [h])]; rfl
  · rw [if_neg h, List.filter_cons_of_neg (by simp [h])]; simp
theorem tupI_same {K : PySem.W.Frag} {H H' : Hp} {x : V} {n : List Int} (h : TupI K H x n) (e : SameT H H') : TupI K H' x n := by
  obtain ⟨t, h1, h2⟩ := h
  exact ⟨t, h1, sameT_sqT e h2⟩
/-- tuple(xs) -/
abbrev rTO (K : PySem.W.Frag) : List V → Hp → VK → Prop := fun xs H Q => ∃ p ys, xs = [V.ref p] ∧ ((SqL K H p ys ∧ ∀ l, H l = none → Q (.ref l) (upd H l (.tup ys))) ∨ (SqT K H p ys ∧ Q (.ref p) H))
/-- a row of the paper -/
def RowT (K : PySem.W.Frag) (H : Hp) (y : V) (L : List (List Int)) : Prop := ∃ q zs, y = .ref q ∧ SqT K H q zs ∧ Paired (TupI K H) zs L
theorem RowT.sameT {K : PySem.W.Frag} {H H' : Hp} {y : V} {L : List (List Int)} (h : RowT K H y L) (e : SameT H H') : RowT K H' y L := by
  obtain ⟨q, zs, h1, h2, h3⟩ := h
  exact ⟨q, zs, h1, sameT_sqT e h2, Paired.mapP h3 fun _ _ z => tupI_same z e⟩
def PapV (K : PySem.W.Frag) (H : Hp) (t : Addr) (out : List (List (List Int))) : Prop := ∃ vs, SqT K H t vs ∧ Paired (RowT K H) vs out
theorem PapV.sameT {K : PySem.W.Frag} {H H' : Hp} {t : Addr} {out : List (List (List Int))} (h : PapV K H t out) (e : SameT H H') : PapV K H' t out := by
  obtain ⟨vs, h1, h2⟩ := h
  exact ⟨vs, sameT_sqT e h1, Paired.mapP h2 fun _ _ z => z.sameT e⟩
def PapOk (C : List (Ky × Cl)) (n : Nat) (out : List (List (List Int))) : Prop := out.length = n ∧ ∀ (i : Nat) (L : List (List Int)), out[i]? = some L → L.Perm (rowsOf C i) ∧ L.Pairwise fun a b => TS.code 2000 a ≤ TS.code 2000 b
section
variable {P : Program} {w : World} {K : PySem.W.Frag} {CS a dx p sg d wl : Addr} {lt : V} {xs : List DEnt} {ws : List V} {Pr : Pg} {S : List Sg} {s : Sk} {H H' : Hp}
theorem SkB.keep (B : SkB P w K CS a dx p sg d wl lt xs ws Pr S s H) (t : SameT H H') (f : ∀ b o, H b = some o → b = a ∨ b = d ∨ b = wl → H' b = some o) : SkB P w K CS a dx p sg d wl lt xs ws Pr S s H' :=
  ⟨f _ _ B.ob (.inl rfl), B.pg.sameT t, B.sg_.sameT t, f _ _ B.dd (.inr (.inl rfl)), B.kk.sameT t, B.cs.sameT t, f _ _ B.wl_ (.inr (.inr rfl)), Paired.mapP B.wk fun _ _ q => q.sameT t, B.lt_.sameT t⟩
end
section
variable {P : Program} {w : World} {K : PySem.W.Frag} {mg : Str → Option Value} {base : Heap} {CS : Addr}
def sp_Seeking_paper (P : Program) (w : World) (K : PySem.W.Frag) (CS : Addr) : Sp := fun vs H Q _ => ∃ a dx p sg d wl lt xs ws Pr S s, vs = [.ref a] ∧ SkB P w K CS a dx p sg d wl lt xs ws Pr S s H ∧ Pr.length ≤ 1000 ∧ s.C.length ≤ 1000 ∧ (s.C.map (·.1)).Nodup ∧
  (∀ q ∈ s.C, q.1.r < Pr.length ∧ TS.Bd 2000 (cell5 q)) ∧ (∀ i, (rowsOf s.C i).length < 64) ∧
  ∀ H' t out, SameT H H' → PapV K H' t out → PapOk s.C Pr.length out → Q (.ref t) H'
abbrev N_Seeking_paper : List Str := ["self", "rows", "key", "row", "some"]
theorem sc_Seeking_paper : FnScope N_Seeking_paper ["self"] (defScope s_Seeking_paper) := ⟨rfl, rfl, rfl, by decide +kernel, rfl, by decide +kernel, by decide +kernel⟩
theorem ok_Seeking_paper (T : TX K mg) (C : TC K mg CS) : OkM P w K mg base CS 1 "paper" ["self"] (sp_Seeking_paper P w K CS) := by
  refine C.d_paper.ok sc_Seeking_paper (fun _ _ _ _ _ _ us hl => match us, hl with | [_], _ => rfl) (fun vs H Q E h => ?_) (fun f cdv A outer s H vs Q E hr h => ?_)
  · obtain ⟨_, _, _, _, _, _, _, _, _, _, _, _, rfl, _⟩ := h; rfl
  · obtain ⟨a, dx, p, sg, d, wl, lt, xs, ws, Pr, S, s, rfl, B, hPl, hCl, hndC, hb5, h64, k⟩ := h
    refine ⟨_, (pss_cons (ps_setLc (i := 1) (own := [("row", 3)]) (g := gName 3) (tt := tYes) rfl sc_Seeking_paper.nd rfl rfl (sw_true rfl rfl rfl (by decide +kernel)) (pi_tup (pe_fld (pv 0) rfl)) (blkOk_by (N := N_Seeking_paper) (sc := defScope s_Seeking_paper) (by decide +kernel)) (fun _ _ _ _ _ => (pg_name (i := 3) sc_Seeking_paper.nd rfl (Or.inl rfl))) (fun _ _ _ _ _ => pts_nil) (fun _ _ _ _ _ => (pe_lst pa_nil)))
        (pss_cons (ps_for PassesOwn.never rfl (pi_list (pe_callTy (call_list_dX rfl) rfl T.n_list (by decide +kernel) (pa_cons (pe_fld (pv 0) rfl) pa_nil))) (pg_name (i := 2) sc_Seeking_paper.nd rfl (Or.inl rfl)) (pss_one (ps_expr (pe_bm PySem.F.plainAttrs_list PySem.F.slot_list_append PySem.F.type_list_append mt_append (pe_ix ix_list (pv 1) (pe_ix ix_tup (pv 2) pe_int (fun _ _ => rfl)) (fun _ _ => rfl)) (pa_cons (pe_op op_catA (pe_slice sl_tupA (pv 2) (po_some pe_int) po_none) (pe_slice sl_tupA (pe_xget (hu_of hr) (pe_fld (pv 0) rfl) (pv 2) (fun _ _ => rfl)) po_none (po_some pe_int))) pa_nil)))))
        (pss_one (ps_ret (pe_callTy call_tuple_of rfl T.n_tuple (by decide +kernel) (pa_cons (pe_lc (own := [("some", 4)]) (g := gName 4) (tt := tYes) (te := tCB (rTO K) (tCons (tCB (rSortU K 5 2000) (tCons (tVar 4) tNil)) tNil)) rfl sc_Seeking_paper.nd (pi_list (pv 1)) (blkOk_by (N := N_Seeking_paper) (sc := defScope s_Seeking_paper) (by decide +kernel)) (fun _ _ _ _ _ => (pg_name (i := 4) sc_Seeking_paper.nd rfl (Or.inl rfl))) (fun _ _ _ _ _ => pts_nil) (fun _ _ _ _ _ => (pe_callTy call_tuple_of rfl T.n_tuple (by decide +kernel) (pa_cons (pe_callB (cr_sortT (d := 5) (B := 2000) (by decide)) rfl T.n_sorted (by decide +kernel) (pa_cons (pv 4) pa_nil)) pa_nil)))) pa_nil)))))), ?_⟩
    obtain ⟨rs, hpr, hrl⟩ := B.pg.len
    refine ⟨_, rfl, a, CS, dx, _, _, rfl, B.ob, C.cl, C.n_program, rfl, p, rfl, ⟨_, hpr⟩, fun D hD => lc_it (walk_tup (K := K) (a := p) (xs := rs.map V.ref)) (fun i H1 => Same H H1 ∧ ∃ bs : List Addr, H1 D = some (.lst (bs.map V.ref)) ∧ bs.length = i ∧ bs.Nodup ∧ ∀ b ∈ bs, H1 b = some (.lst []) ∧ H b = none ∧ b ≠ D)
      ⟨same_new hD, [], upd_same, rfl, .nil, fun b hb => absurd hb (by simp)⟩ (fun i H1 _ q => same_sqT q.1 hpr) ?_ ?_⟩
    · rintro i x H1 H2 hi ⟨sm, bs, h1, h2, h3, h4⟩ ⟨rfl, _⟩
      refine ⟨rfl, yesT ⟨(by show 0 ≤ sizeLine; decide), fun b hb => ?_⟩⟩
      have nbD : b ≠ D := fun e => by rw [e, h1] at hb; cases hb
      refine ⟨bs.map V.ref, same_new hb _ _ h1, small1000 (by rw [List.length_map]; rw [List.length_map] at hi; omega), same_upd hD (sm.trans (same_new hb)), bs ++ [b], by rw [List.map_append]; exact upd_same, by rw [List.length_append, h2]; rfl, ?_, fun c hc => ?_⟩
      · refine List.nodup_append.mpr ⟨h3, by simp, fun x hx y hy => ?_⟩
        rw [List.mem_singleton.mp hy]
        exact fun e => by rw [e] at hx; have := (h4 b hx).1; rw [hb] at this; cases this
      · rcases List.mem_append.mp hc with hc | hc
        · obtain ⟨g1, g2, g3⟩ := h4 c hc
          exact ⟨by rw [upd_ne g3]; exact same_new hb _ _ g1, g2, g3⟩
        · rw [List.mem_singleton.mp hc]
          exact ⟨by rw [upd_ne nbD]; exact upd_same, sm.free hb, nbD⟩
    · rintro H1 ⟨sm, bs, hD1, hbl, hnd, hbs⟩
      have B1 := B.same sm
      have hbl : bs.length = Pr.length := by rw [hbl, List.length_map, hrl]
      have hxl : s.C.length = xs.length := Paired.length B.cs
      have nob : ∀ b ∈ bs, b ≠ a ∧ b ≠ d ∧ b ≠ wl := fun b hb => by
        have h0 := (hbs b hb).2.1
        exact ⟨fun e => (by rw [e, B.ob] at h0; cases h0), fun e => (by rw [e, B.dd] at h0; cases h0), fun e => (by rw [e, B.wl_] at h0; cases h0)⟩
      have nDo : D ≠ a ∧ D ≠ d ∧ D ≠ wl := ⟨fun e => (by rw [e, B.ob] at hD; cases hD), fun e => (by rw [e, B.dd] at hD; cases hD), fun e => (by rw [e, B.wl_] at hD; cases hD)⟩
      refine ⟨_, rfl, a, CS, dx, _, _, rfl, B1.ob, C.cl, C.n_cells, rfl, d, xs, rfl, B1.dd, B1.kk, fun kl hkl => ⟨kl, rfl, ⟨_, SqL.of upd_same⟩, ?_⟩⟩
      have skl := same_new (o := .lst (xs.map fun x => V.ref x.2.1)) hkl
      have nkl : ∀ b o, H1 b = some o → b ≠ kl := fun b o h => ne_of_none h hkl
      refine for_list (K := K) (a := kl) (xs := xs.map fun x => V.ref x.2.1) (fun j σ H3 => ∃ o2, σ = [some (.ref a), some (.ref D), o2, none, none] ∧ SameT H1 H3 ∧ (∀ b o, H1 b = some o → b ∉ bs → H3 b = some o) ∧ H3 kl = some (.lst (xs.map fun x => V.ref x.2.1)) ∧
        ∀ (i : Nat) (b : Addr), bs[i]? = some b → ∃ ys, H3 b = some (.lst ys) ∧ Paired (TupI K H3) ys (rowsOf (s.C.take j) i))
        ⟨none, rfl, sameT_of skl, fun b o h _ => skl _ _ h, upd_same, fun i b hb => ⟨[], skl _ _ (hbs b (List.mem_of_getElem? hb)).1, .nil⟩⟩ (fun j σ H3 _ ⟨_, _, _, _, h, _⟩ => SqL.of h) ?_ ?_
      · rintro j v σ H3 hj ⟨o2, rfl, t3, f3, hkl3, hL3⟩
        have B3 : SkB P w K CS a dx p sg d wl lt xs ws Pr S s H3 := B1.keep t3 fun b o h e => f3 b o h fun hb => by
          obtain ⟨n1, n2, n3⟩ := nob b hb
          rcases e with e | e | e
          · exact n1 e
          · exact n2 e
          · exact n3 e
        have hD3 : H3 D = some (.lst (bs.map V.ref)) := f3 D _ hD1 fun h => (hbs D h).2.2 rfl
        rw [List.getElem?_map] at hj
        cases hxj : xs[j]? with
        | none => rw [hxj] at hj; cases hj
        | some ent =>
          rw [hxj] at hj
          cases hj
          obtain ⟨⟨ky, c⟩, hcj, hk1, _⟩ := paired_atR B3.cs hxj
          have hkb : SqT K H3 ent.2.1 ((kyL ky).map V.int) := by
            have := B3.kk ent (List.mem_of_getElem? hxj)
            rw [hk1] at this
            exact this
          obtain ⟨_, hat, q, wv, rfl, hq, hwv⟩ := ent_some B3.cs (mem_look (List.mem_of_getElem? hcj) hndC)
          obtain ⟨hr, hbd⟩ := hb5 _ (List.mem_of_getElem? hcj)
          have hr : ky.r < bs.length := by rw [hbl]; exact hr
          have hbr : bs[ky.r]? = some bs[ky.r] := List.getElem?_eq_getElem hr
          obtain ⟨ys, hys, hpys⟩ := hL3 _ _ hbr
          refine ⟨_, rfl, _, rfl, ent.2.1, _, _, _, rfl, rfl, hkb, rfl, D, _, _, .ref bs[ky.r], rfl, rfl, SqL.of hD3, nat_at (by rw [List.getElem?_map, hbr]; rfl), .inl ⟨rfl, _, SqL.of hys⟩, ?_⟩
          refine ⟨_, rfl, _, rfl, noPart (slA_of hkb fun p1 H4 s4 hc4 => ?_)⟩
          have B4 := B3.same s4
          refine ⟨_, rfl, a, CS, dx, _, _, rfl, B4.ob, C.cl, C.n_cells, rfl, _, rfl, d, ent.2.1, xs, kyL ky, .ref q, rfl, rfl, B4.dd, B4.kk, same_sqT s4 hkb, hat, noPart ⟨_, rfl, slA_of (SqT.of (s4 _ _ hq)) fun p2 H5 s5 hc5 => ?_⟩⟩
          refine catA_of (same_sqT s5 hc4) hc5 (by show 5 ≤ 1000; decide) fun t H6 s6 ht => ?_
          have s36 := (s4.trans s5).trans s6
          refine ⟨bs[ky.r], ys, _, rfl, rfl, s36 _ _ hys, ?_, ?_⟩
          · have h1 := Paired.length hpys
            have h2 : (rowsOf (s.C.take j) ky.r).length ≤ s.C.length := by
              unfold rowsOf
              rw [List.length_map]
              refine Nat.le_trans (List.length_filter_le _ _) ?_
              rw [List.length_take]
              omega
            exact small1000 (by omega)
          · have t7 : SameT H6 (upd H6 bs[ky.r] (.lst (ys ++ [.ref t]))) := sameT_lst (s36 _ _ hys)
            have t37 := (sameT_of s36).trans t7
            refine ⟨_, rfl, t3.trans t37, fun b o h hb => ?_, ?_, fun i b hib => ?_⟩
            · rw [upd_ne (fun (e : b = bs[ky.r]) => hb (by rw [e]; exact List.getElem_mem hr))]
              exact s36 _ _ (f3 b o h hb)
            · rw [upd_ne (fun e => by have := (hbs _ (List.getElem_mem hr)).1; rw [← e, hkl] at this; cases this)]
              exact s36 _ _ hkl3
            · rw [take_snoc hcj, rowsOf_snoc]
              by_cases hi : ky.r = i
              · subst hi
                have : b = bs[ky.r] := by rw [hbr] at hib; exact (Option.some.inj hib).symm
                subst this
                rw [if_pos rfl]
                exact ⟨_, upd_same, Paired.snoc (Paired.mapP hpys fun _ _ z => tupI_same z t37) ⟨t, rfl, sameT_sqT t7 ht⟩⟩
              · rw [if_neg hi]
                obtain ⟨ys2, hy1, hy2⟩ := hL3 i b hib
                refine ⟨ys2, ?_, Paired.mapP hy2 fun _ _ z => tupI_same z t37⟩
                rw [upd_ne]
                · exact s36 _ _ hy1
                · intro e
                  rw [e, ← hbr] at hib
                  exact hi ((List.getElem?_inj hr hnd).mp hib.symm)
      · rintro σ H3 ⟨o2, rfl, t3, f3, hkl3, hL3⟩
        have hD3 : H3 D = some (.lst (bs.map V.ref)) := f3 D _ hD1 fun h => (hbs D h).2.2 rfl
        rw [List.length_map, ← hxl, List.take_length] at hL3
        refine ⟨_, rfl, D, rfl, ⟨_, SqL.of hD3⟩, fun D2 hD2 => lc_rel (walk_list (K := K) (a := D) (xs := bs.map V.ref)) (fun i y H' => ∃ L, RowT K H' y L ∧ L.Perm (rowsOf s.C i) ∧ L.Pairwise fun a b => TS.code 2000 a ≤ TS.code 2000 b) (fun _ _ _ _ ⟨L, h, h2⟩ e => ⟨L, h.sameT e, h2⟩) (by rw [List.length_map]; omega) hD2 (fun H' e => SqL.of (e _ _ hD3)) hY_at ?_ ?_⟩
        · rintro i x H4 H5 C1 C0 hi sm4 ⟨rfl, hx⟩ hC
          rw [List.getElem?_map] at hx
          cases hbi : bs[i]? with
          | none => rw [hbi] at hx; cases hx
          | some b =>
            rw [hbi] at hx
            cases hx
            obtain ⟨ys, hy1, hy2⟩ := hL3 i b hbi
            have hy2 : Paired (TupI K H5) ys (rowsOf s.C i) := Paired.mapP hy2 fun _ _ z => tupI_same z (sameT_of sm4)
            refine ⟨rfl, yesT ⟨_, rfl, b, ys, rfl, SqL.of (sm4 _ _ hy1), by rw [Paired.length hy2]; exact h64 i, fun x hx => ?_, fun zs q hperm hsort hq => ⟨q, zs, rfl, .inl ⟨SqL.of upd_same, fun t ht => ?_⟩⟩⟩⟩
            · obtain ⟨m, hm⟩ := List.getElem?_of_mem hx
              obtain ⟨n, hn, hT⟩ := paired_atL hy2 hm
              have hmem := List.mem_of_getElem? hn
              unfold rowsOf at hmem
              obtain ⟨pq, hpq, rfl⟩ := List.mem_map.mp hmem
              exact ⟨_, hT, rfl, (hb5 pq (List.mem_filter.mp hpq).1).2⟩
            · obtain ⟨L', hL', hP'⟩ := perm_paired hperm hy2
              have s5 := (same_new (o := .lst zs) hq).trans (same_new (o := .tup zs) ht)
              exact hC _ _ s5 ⟨L', ⟨t, zs, rfl, SqT.of upd_same, Paired.mapP hP' fun _ _ z => tupI_same z (sameT_of s5)⟩, hL', paired_pairwise hP' hsort⟩
        · intro H4 ys sm4 hD4 hn hy
          refine ⟨D2, ys, rfl, .inl ⟨SqL.of hD4, fun t ht => ?_⟩⟩
          obtain ⟨out, ho1, ho2⟩ := list_choose ys (fun i y L => RowT K H4 y L ∧ L.Perm (rowsOf s.C i) ∧ L.Pairwise fun a b => TS.code 2000 a ≤ TS.code 2000 b) hy
          have st := same_new (o := .tup ys) ht
          refine k _ t out (((sameT_of sm).trans t3).trans ((sameT_of sm4).trans (sameT_of st))) ⟨ys, SqT.of upd_same, paired_of ho1.symm fun i y L h1 h2 => (ho2 i y L h1 h2).1.sameT (sameT_of st)⟩ ⟨by rw [ho1, hn, List.length_map, hbl], fun i L hL => ?_⟩
          have hil : i < ys.length := by rw [← ho1]; exact (List.getElem?_eq_some_iff.mp hL).1
          exact (ho2 i _ L (List.getElem?_eq_getElem hil) hL).2
end

structure Good (Pr : Pg) (U : List Ky) : Prop where
  pl : Pr.length ≤ 1000
  sum : (Pr.map fun r => byteC r.d).sum ≤ 256
  so : SignsOk Pr
  fl : Fl Pr (signsOf Pr) U
  rl : ∀ k ∈ U, k.r < Pr.length
  row : ∀ i : Nat, ∃ Ui : List Ky, Ui.length < 64 ∧ ∀ k ∈ U, k.r = i → k ∈ Ui
def KeptOk (Pr : Pg) (S : List Sg) (U : List Ky) (s : Sk) (out : List (List (List Int))) : Prop := SkI Pr S U s ∧ Clo Pr S (fun _ _ => True) s ∧ s.W = [] ∧ s.L = none ∧ PapOk s.C Pr.length out
def LateOk (Pr : Pg) (S : List Sg) (rows : List Nat) : Prop := ∃ l v, Way Pr S l v ∧ 30 < l ∧ l ≤ 35 ∧ rows = v.reverse
section
variable {Pr : Pg} {S : List Sg} {U : List Ky}
theorem look_sk0 {k : Ky} {c : Cl} (h : lookC sk0.C k = some c) : k = ⟨0, 0, 0, 1⟩ ∧ c = ⟨0, 0, [0]⟩ := by
  have h : lookC [((⟨0, 0, 0, 1⟩ : Ky), (⟨0, 0, [0]⟩ : Cl))] k = some c := h
  rw [look_cons] at h
  by_cases e : (⟨0, 0, 0, 1⟩ : Ky) = k
  · rw [if_pos e] at h
    exact ⟨e.symm, (Option.some.inj h).symm⟩
  · rw [if_neg e] at h
    cases h
theorem sk0_I (FL : Fl Pr S U) : SkI Pr S U sk0 := by
  refine ⟨?_, fun p hp => ?_, fun k hk => ?_, fun k hk => ?_, fun k c h => ?_, ⟨⟨0, 0, [0]⟩, rfl, Int.le_refl _⟩, fun rows h => nomatch h⟩
  · show ([(⟨0, 0, 0, 1⟩ : Ky)]).Nodup
    simp
  · obtain rfl := List.mem_singleton.mp hp
    exact FL.first
  · obtain rfl := List.mem_singleton.mp hk
    exact FL.first
  · obtain rfl := List.mem_singleton.mp hk
    exact ⟨⟨0, 0, [0]⟩, rfl⟩
  · obtain ⟨rfl, rfl⟩ := look_sk0 h
    exact ⟨by decide, by decide, by decide, fun _ => by decide, ⟨[], rfl⟩, .zero⟩
theorem sk0_C : Clo Pr S (fun _ _ => True) sk0 := fun k c h => .inl (List.mem_singleton.mpr (look_sk0 h).1)
theorem sk0_mu (h : U.length ≤ 1000) : muS U sk0 ≤ 300000 := by
  have := wt_most (C := sk0.C) (fun k c h => by obtain ⟨rfl, rfl⟩ := look_sk0 h; exact ⟨by decide, by decide, by decide⟩) U
  unfold muS
  have h2 : sk0.W.length = 1 := rfl
  omega
theorem SkI.rows64 {s : Sk} (I : SkI Pr S U s) (h : ∀ i : Nat, ∃ Ui : List Ky, Ui.length < 64 ∧ ∀ k ∈ U, k.r = i → k ∈ Ui) (i : Nat) : (rowsOf s.C i).length < 64 := by
  unfold rowsOf
  rw [List.length_map]
  obtain ⟨Ui, hi1, hi2⟩ := h i
  have q := nodup_len (l := (s.C.filter fun p => decide (p.1.r = i)).map (·.1)) (m := Ui) ?_ fun x hx => ?_
  · rw [List.length_map] at q
    exact Nat.lt_of_le_of_lt q hi1
  · exact List.Sublist.nodup (List.Sublist.map _ List.filter_sublist) I.nd
  · obtain ⟨p, hp, rfl⟩ := List.mem_map.mp hx
    obtain ⟨h1, h2⟩ := List.mem_filter.mp hp
    exact hi2 _ (I.cU p h1) (of_decide_eq_true h2)
theorem SkI.bd {s : Sk} (I : SkI Pr S U s) (FL : Fl Pr S U) {q : Ky × Cl} (hq : q ∈ s.C) : TS.Bd 2000 (cell5 q) := by
  obtain ⟨k, c⟩ := q
  obtain ⟨R, _⟩ := FL.ok k (I.cU _ hq)
  obtain ⟨h1, h2, h3, _⟩ := I.ce k c (mem_look hq I.nd)
  have := R.l0
  have := R.lh
  have := R.h255
  have := R.z01
  intro m hm
  unfold cell5 at hm
  simp only [List.mem_cons, List.not_mem_nil, or_false] at hm
  rcases hm with rfl | rfl | rfl | rfl | rfl <;> omega
end
section
variable {P : Program} {w : World} {K : PySem.W.Frag} {mg : Str → Option Value} {base : Heap} {CS : Addr}
def sp_times_of (P : Program) (w : World) (K : PySem.W.Frag) : Sp := fun vs H Q _ => ∃ a Pr U, vs = [.ref a, .int 0] ∧ PgAt K H a Pr ∧ Good Pr U ∧
  (∀ H' p t rows, SameT H H' → SqT K H' p [.str "late", .ref t] → SqT K H' t (natsV rows) → LateOk Pr (signsOf Pr) rows → Q (.ref p) H') ∧
  (∀ H' p t out s, SameT H H' → SqT K H' p [.str "kept", .ref t] → PapV K H' t out → KeptOk Pr (signsOf Pr) U s out → Q (.ref p) H')
abbrev N_times_of : List Str := ["program", "base", "signs", "seeking"]
theorem sc_times_of : FnScope N_times_of ["program", "base"] (defScope s_times_of) := ⟨rfl, rfl, rfl, by decide +kernel, rfl, by decide +kernel, by decide +kernel⟩
theorem ok_times_of (T : TX K mg) (C : TC K mg CS) : Ok P w K mg base 8 "times_of" ["program", "base"] (sp_times_of P w K) := by
  refine T.d_times_of.ok sc_times_of (fun _ _ _ _ _ _ us hl => match us, hl with | [_, _], _ => rfl) (fun vs H Q E h => ?_) (fun f cdv A outer s H vs Q E hr h => ?_)
  · obtain ⟨_, _, _, rfl, _⟩ := h; rfl
  · obtain ⟨a, Pr, U, rfl, hP, G, k1, k2⟩ := h
    refine ⟨_, (pss_cons (ps_set (i := 2) sc_times_of.nd rfl (Or.inl rfl) (pcall (ok_page_signs T) (hr.mono (by decide)) rfl (pa_cons (pv 0) (pa_cons (pv 1) pa_nil))))
        (pss_cons (ps_expr (pcall (ok_least_keys T) (hr.mono (by decide)) rfl (pa_cons (pv 0) (pa_cons (pv 2) pa_nil))))
        (pss_cons (ps_set (i := 3) sc_times_of.nd rfl (Or.inl rfl) (pmake (mk_Seeking T C) C.mgC (hr.mono (by decide)) rfl (pa_cons (pv 0) (pa_cons (pv 2) pa_nil))))
        (pss_cons (ps_expr (pmeth0 (ok_Seeking_seek T C) C.cl (hr.mono (by decide)) (pv 3)))
        (pss_cons (ps_if (pt_cmp (pc_notN (pe_fld (pv 3) rfl))) (pss_one (ps_ret (pe_tup (pa_cons pe_str (pa_cons (pe_fld (pv 3) rfl) pa_nil))))) pss_nil)
        (pss_one (ps_ret (pe_tup (pa_cons pe_str (pa_cons (pmeth0 (ok_Seeking_paper T C) C.cl (hr.mono (by decide)) (pv 3)) pa_nil)))))))))), ?_⟩
    refine ⟨_, rfl, _, rfl, a, Pr, rfl, hP, G.pl, G.sum, G.so, fun H1 sg s1 hSg => ?_⟩
    refine ⟨_, rfl, _, rfl, a, sg, Pr, _, U, rfl, hP.same s1, hSg, G.fl, fun H2 _ s2 => ?_⟩
    have s02 := s1.trans s2
    refine ⟨_, rfl, _, rfl, fun x dx hx hdx hne => ?_⟩
    have hx2 : (upd H2 dx (.own x)) x = none := by rw [upd_ne hne.symm]; exact hx
    have s3 := (same_new (o := .own x) hdx).trans (same_new (o := .ins CS dx []) hx2)
    refine ⟨x, dx, a, sg, Pr, _, rfl, upd_same, hP.same (s02.trans s3), hSg.same (s2.trans s3), fun H3 d wl xs ws t3 B => ⟨rfl, ?_⟩⟩
    refine ⟨_, rfl, x, dx, _, rfl, B.ob, rfl, x, dx, a, sg, d, wl, .non, xs, ws, Pr, _, U, sk0, rfl, B, G.fl, sk0_I G.fl, sk0_C, sk0_mu G.fl.len, fun H4 s lt xs ws F4 B4 E4 => ?_⟩
    have t04 := ((sameT_of (s02.trans s3)).trans t3).trans F4.t
    obtain ⟨I4, hC4, hE⟩ := E4
    refine ⟨_, rfl, x, CS, dx, _, _, rfl, B4.ob, C.cl, C.n_late, rfl, _, rfl, ite_b (fun e => ?_) fun e => ?_⟩
    · have hL := B4.lt_
      cases hs : s.L with
      | none =>
        rw [hs] at hL
        rw [show lt = .non from hL] at e
        cases e
      | some rows =>
        rw [hs] at hL
        obtain ⟨q, rfl, hq⟩ := hL
        refine ⟨_, rfl, x, CS, dx, _, _, rfl, B4.ob, C.cl, C.n_late, rfl, (by show 2 ≤ sizeLine; decide), fun t ht => ?_⟩
        exact k1 _ t q rows (t04.trans (sameT_of (same_new ht))) (SqT.of upd_same) (same_sqT (same_new ht) hq) (I4.la rows hs)
    · have hL := B4.lt_
      cases hs : s.L with
      | some rows =>
        rw [hs] at hL
        obtain ⟨q, rfl, hq⟩ := hL
        cases e
      | none =>
        have hW : s.W = [] := by
          rcases hE with h | h
          · exact h
          · exact absurd hs h
        refine ⟨_, rfl, x, dx, _, rfl, B4.ob, rfl, x, dx, a, sg, d, wl, lt, xs, ws, Pr, _, s, rfl, B4, G.pl, I4.len G.fl.len, I4.nd, fun q hq => ⟨G.rl _ (I4.cU q hq), I4.bd G.fl hq⟩, I4.rows64 G.row, fun H5 t out t5 hpap hok => ⟨(by show 2 ≤ sizeLine; decide), fun u hu => ?_⟩⟩
        exact k2 _ u t out s (t04.trans (t5.trans (sameT_of (same_new hu)))) (SqT.of upd_same) (hpap.sameT (sameT_of (same_new hu))) ⟨I4, hC4, hW, hs, hok⟩
end

theorem kit_self {K : PySem.W.Frag} {n : String} : PySem.W.kitOne K (.type n) (.type n) = some true := by
  unfold PySem.W.kitOne
  rw [if_pos (beq_self_eq_true _)]
theorem kit_ib {K : PySem.W.Frag} : PySem.W.kitOne K (.type "int") (.type "bool") = some false := by
  first | rfl | decide +kernel
theorem ty_tup {K : PySem.W.Frag} {H : Hp} {a : Addr} {xs : List V} (h : SqT K H a xs) : TyX K H (.ref a) (.type "tuple") := by
  rcases h with (h | ⟨o, h⟩) | ⟨o, its, n, h1, h2, _⟩
  · exact .base (.tup h)
  · exact .fTuple h
  · exact .kTuple h1 h2
def withinB : List Int → List Int → Bool
  | [l, h, z, e, t], [l', h', z', e', t'] => decide (l' ≤ l) && (decide (h ≤ h') && (decide (z' ≤ z) && (decide (e' ≤ e) && decide (t ≤ t'))))
  | _, _ => false
/-- one of a row's cells -/
def CellOk (n : List Int) : Prop := ∃ l h z e t : Int, n = [l, h, z, e, t] ∧ 0 ≤ l ∧ l ≤ h ∧ h ≤ 255 ∧ 0 ≤ z ∧ z ≤ 1 ∧ 0 ≤ e ∧ e ≤ t ∧ t ≤ 30
def leI (ns ms : List Int) : Bool := Ob.lexAt (fun j => decide (ns.getD j 0 = ms.getD j 0)) (fun j => decide (ns.getD j 0 ≤ ms.getD j 0)) (decide (ns.length ≤ ms.length)) 0 (min ns.length ms.length)
/-- each above the one ahead of it -/
def RiseOk (L : List (List Int)) : Prop := (∀ n : List Int, L[0]? = some n → leI n [] = false) ∧ ∀ (j : Nat) (n m : List Int), L[j]? = some n → L[j + 1]? = some m → leI m n = false
section
variable {P : Program} {w : World} {K : PySem.W.Frag} {mg : Str → Option Value} {base : Heap}
def sp_is_within (K : PySem.W.Frag) : Sp := fun vs H Q _ => ∃ a b l h z e t l' h' z' e' t', vs = [.ref a, .ref b] ∧ SqT K H a ([l, h, z, e, t].map V.int) ∧ SqT K H b ([l', h', z', e', t'].map V.int) ∧ Q (.bl (withinB [l, h, z, e, t] [l', h', z', e', t'])) H
abbrev N_is_within : List Str := ["cell", "other", "low", "high", "zero", "early", "late"]
theorem sc_is_within : FnScope N_is_within ["cell", "other"] (defScope s_is_within) := ⟨rfl, rfl, rfl, by decide +kernel, rfl, by decide +kernel, by decide +kernel⟩
theorem ok_is_within (T : TX K mg) : Ok P w K mg base 1 "is_within" ["cell", "other"] (sp_is_within K) := by
  refine T.d_is_within.ok sc_is_within (fun _ _ _ _ _ _ us hl => match us, hl with | [_, _], _ => rfl) (fun vs H Q E h => ?_) (fun f cdv A outer s H vs Q E hr h => ?_)
  · obtain ⟨_, _, _, _, _, _, _, _, _, _, _, _, rfl, _⟩ := h; rfl
  · obtain ⟨a, b, l, h, z, e, t, l', h', z', e', t', rfl, ha, hb, k⟩ := h
    refine ⟨_, (pss_cons (ps_asg (pv 0) (pg_tup rfl (pgs_cons (pg_name (i := 2) sc_is_within.nd rfl (Or.inl rfl)) (pgs_cons (pg_name (i := 3) sc_is_within.nd rfl (Or.inl rfl)) (pgs_cons (pg_name (i := 4) sc_is_within.nd rfl (Or.inl rfl)) (pgs_cons (pg_name (i := 5) sc_is_within.nd rfl (Or.inl rfl)) (pgs_cons (pg_name (i := 6) sc_is_within.nd rfl (Or.inl rfl)) pgs_nil)))))))
        (pss_one (ps_ret (pe_and (pe_cmpR op_le (pe_ix ix_tup (pv 1) pe_int (fun _ _ => rfl)) (pv 2) (nomark _)) (pe_and (pe_cmpR op_le (pv 3) (pe_ix ix_tup (pv 1) pe_int (fun _ _ => rfl)) (nomark _)) (pe_and (pe_cmpR op_le (pe_ix ix_tup (pv 1) pe_int (fun _ _ => rfl)) (pv 4) (nomark _)) (pe_and (pe_cmpR op_le (pe_ix ix_tup (pv 1) pe_int (fun _ _ => rfl)) (pv 5) (nomark _)) (pe_one (pe_cmpR op_le (pv 6) (pe_ix ix_tup (pv 1) pe_int (fun _ _ => rfl)) (nomark _)))))))))), ?_⟩
    have k : Q (.bl (decide (l' ≤ l) && (decide (h ≤ h') && (decide (z' ≤ z) && (decide (e' ≤ e) && decide (t ≤ t')))))) H := k
    refine ⟨_, rfl, a, _, rfl, ha, rfl, _, _, rfl, _, _, rfl, _, _, rfl, _, _, rfl, _, _, rfl, rfl, ?_⟩
    refine ⟨_, rfl, b, _, _, _, rfl, rfl, hb, rfl, _, rfl, _, _, rfl, rfl, _, rfl, ite_b (fun e1 => ?_) fun e1 => ?_⟩
    · rw [e1, Bool.true_and] at k
      refine ⟨_, rfl, _, rfl, b, _, _, _, rfl, rfl, hb, rfl, _, _, rfl, rfl, _, rfl, ite_b (fun e2 => ?_) fun e2 => ?_⟩
      · rw [e2, Bool.true_and] at k
        refine ⟨_, rfl, b, _, _, _, rfl, rfl, hb, rfl, _, rfl, _, _, rfl, rfl, _, rfl, ite_b (fun e3 => ?_) fun e3 => ?_⟩
        · rw [e3, Bool.true_and] at k
          refine ⟨_, rfl, b, _, _, _, rfl, rfl, hb, rfl, _, rfl, _, _, rfl, rfl, _, rfl, ite_b (fun e4 => ?_) fun e4 => ?_⟩
          · rw [e4, Bool.true_and] at k
            exact ⟨_, rfl, _, rfl, b, _, _, _, rfl, rfl, hb, rfl, _, _, rfl, rfl, k⟩
          · rw [e4, Bool.false_and] at k; exact k
        · rw [e3, Bool.false_and] at k; exact k
      · rw [e2, Bool.false_and] at k; exact k
    · rw [e1, Bool.false_and] at k; exact k
def sp_is_between : Sp := fun vs H Q _ => ∃ i lo hi, vs = [.int i, .int lo, .int hi] ∧ Q (.bl (decide (lo ≤ i) && decide (i ≤ hi))) H
abbrev N_is_between : List Str := ["thing", "low", "high"]
theorem sc_is_between : FnScope N_is_between ["thing", "low", "high"] (defScope s_is_between) := ⟨rfl, rfl, rfl, by decide +kernel, rfl, by decide +kernel, by decide +kernel⟩
theorem ok_is_between (T : TX K mg) : Ok P w K mg base 1 "is_between" ["thing", "low", "high"] sp_is_between := by
  refine T.d_is_between.ok sc_is_between (fun _ _ _ _ _ _ us hl => match us, hl with | [_, _, _], _ => rfl) (fun vs H Q E h => ?_) (fun f cdv A outer s H vs Q E hr h => ?_)
  · obtain ⟨_, _, _, rfl, _⟩ := h; rfl
  · obtain ⟨i, lo, hi, rfl, k⟩ := h
    refine ⟨_, (pss_one (ps_ret (pe_and (pe_callB call_isi rfl T.n_isinstance (by decide +kernel) (pa_cons (pv 0) (pa_cons (pe_bltn (v := .ty "int") rfl T.n_int (by decide +kernel) rfl) pa_nil))) (pe_and (pe_not (pe_callB call_isi rfl T.n_isinstance (by decide +kernel) (pa_cons (pv 0) (pa_cons (pe_bltn (v := .ty "bool") rfl T.n_bool (by decide +kernel) rfl) pa_nil)))) (pe_one (pe_chain op_le op_le (pv 1) (pv 0) (pv 2))))))), ?_⟩
    refine ⟨_, rfl, .int i, .ty "int", .type "int", .type "int", true, rfl, .ty _, .base (.int i), kit_self, _, rfl, iteT ?_⟩
    refine ⟨_, rfl, .int i, .ty "bool", .type "int", .type "bool", false, rfl, .ty _, .base (.int i), kit_ib, _, rfl, _, rfl, iteT ?_⟩
    refine ⟨_, rfl, _, rfl, _, _, rfl, rfl, _, rfl, ite_b (fun e1 => ?_) fun e1 => ?_⟩
    · rw [e1, Bool.true_and] at k
      exact ⟨_, rfl, _, _, rfl, rfl, k⟩
    · rw [e1, Bool.false_and] at k; exact k
theorem btw {i lo hi : Int} (h1 : lo ≤ i) (h2 : i ≤ hi) : (decide (lo ≤ i) && decide (i ≤ hi)) = true := by
  rw [decide_eq_true h1, decide_eq_true h2]
  rfl
def sp_is_cell (K : PySem.W.Frag) : Sp := fun vs H Q _ => ∃ a n, vs = [.ref a] ∧ SqT K H a (n.map V.int) ∧ CellOk n ∧ Q (.bl true) H
abbrev N_is_cell : List Str := ["thing", "low", "high", "zero", "early", "late"]
theorem sc_is_cell : FnScope N_is_cell ["thing"] (defScope s_is_cell) := ⟨rfl, rfl, rfl, by decide +kernel, rfl, by decide +kernel, by decide +kernel⟩
theorem ok_is_cell (T : TX K mg) : Ok P w K mg base 2 "is_cell" ["thing"] (sp_is_cell K) := by
  refine T.d_is_cell.ok sc_is_cell (fun _ _ _ _ _ _ us hl => match us, hl with | [_], _ => rfl) (fun vs H Q E h => ?_) (fun f cdv A outer s H vs Q E hr h => ?_)
  · obtain ⟨_, _, rfl, _⟩ := h; rfl
  · obtain ⟨a, n, rfl, ha, ⟨l, h, z, e, t, rfl, h1, h2, h3, h4, h5, h6, h7, h8⟩, k⟩ := h
    refine ⟨_, (pss_cons (ps_if (PW.pt (pw_or (pt_not (pt_val (pe_callB call_isi rfl T.n_isinstance (by decide +kernel) (pa_cons (pv 0) (pa_cons (pe_bltn (v := .ty "tuple") rfl T.n_tuple (by decide +kernel) rfl) pa_nil))))) (pw_or1 (pt_cmpR op_ne (pe_callB call_len_seq rfl T.n_len (by decide +kernel) (pa_cons (pv 0) pa_nil)) pe_int (nomark _))))) (pss_one (ps_ret pe_bl)) pss_nil)
        (pss_cons (ps_asg (pv 0) (pg_tup rfl (pgs_cons (pg_name (i := 1) sc_is_cell.nd rfl (Or.inl rfl)) (pgs_cons (pg_name (i := 2) sc_is_cell.nd rfl (Or.inl rfl)) (pgs_cons (pg_name (i := 3) sc_is_cell.nd rfl (Or.inl rfl)) (pgs_cons (pg_name (i := 4) sc_is_cell.nd rfl (Or.inl rfl)) (pgs_cons (pg_name (i := 5) sc_is_cell.nd rfl (Or.inl rfl)) pgs_nil)))))))
        (pss_cons (ps_if (PW.pt (pw_or (pt_not (pt_val (pcall (ok_is_between T) (hr.mono (by decide)) rfl (pa_cons (pv 1) (pa_cons pe_int (pa_cons (pgi T.i_MOST_BYTE rfl) pa_nil)))))) (pw_or (pt_not (pt_val (pcall (ok_is_between T) (hr.mono (by decide)) rfl (pa_cons (pv 2) (pa_cons (pv 1) (pa_cons (pgi T.i_MOST_BYTE rfl) pa_nil)))))) (pw_or1 (pt_not (pt_val (pcall (ok_is_between T) (hr.mono (by decide)) rfl (pa_cons (pv 3) (pa_cons pe_int (pa_cons pe_int pa_nil)))))))))) (pss_one (ps_ret pe_bl)) pss_nil)
        (pss_one (ps_ret (pe_and (pcall (ok_is_between T) (hr.mono (by decide)) rfl (pa_cons (pv 4) (pa_cons pe_int (pa_cons (pgi T.i_MOST_BEAT rfl) pa_nil)))) (pe_one (pcall (ok_is_between T) (hr.mono (by decide)) rfl (pa_cons (pv 5) (pa_cons (pv 4) (pa_cons (pgi T.i_MOST_BEAT rfl) pa_nil))))))))))), ?_⟩
    refine ⟨_, rfl, .ref a, .ty "tuple", .type "tuple", .type "tuple", true, rfl, .ty _, ty_tup ha, kit_self, _, rfl, iteF ⟨_, rfl, a, _, rfl, .inr ha, rfl, _, rfl, iteF ?_⟩⟩
    refine ⟨_, rfl, a, _, rfl, ha, rfl, _, _, rfl, _, _, rfl, _, _, rfl, _, _, rfl, _, _, rfl, rfl, ?_⟩
    refine ⟨_, rfl, l, 0, 255, rfl, ?_⟩
    rw [btw h1 (by omega)]
    refine ⟨_, rfl, iteF ⟨_, rfl, _, rfl, h, l, 255, rfl, ?_⟩⟩
    rw [btw h2 h3]
    refine ⟨_, rfl, iteF ⟨_, rfl, z, 0, 1, rfl, ?_⟩⟩
    rw [btw h4 h5]
    refine ⟨_, rfl, iteF ⟨_, rfl, e, 0, 30, rfl, ?_⟩⟩
    rw [btw h6 (by omega)]
    refine ⟨_, rfl, iteT ⟨_, rfl, _, rfl, t, e, 30, rfl, ?_⟩⟩
    rw [btw h7 h8]
    exact k
def sp_is_within_one (K : PySem.W.Frag) : Sp := fun vs H Q _ => ∃ a y n L, vs = [.ref a, y] ∧ SqT K H a (n.map V.int) ∧ (∃ l h z e t : Int, n = [l, h, z, e, t]) ∧ RowT K H y L ∧ (∀ m ∈ L, CellOk m) ∧ Q (.bl (L.any (withinB n))) H
abbrev N_is_within_one : List Str := ["cell", "some", "other"]
theorem sc_is_within_one : FnScope N_is_within_one ["cell", "some"] (defScope s_is_within_one) := ⟨rfl, rfl, rfl, by decide +kernel, rfl, by decide +kernel, by decide +kernel⟩
theorem ok_is_within_one (T : TX K mg) : Ok P w K mg base 2 "is_within_one" ["cell", "some"] (sp_is_within_one K) := by
  refine T.d_is_within_one.ok sc_is_within_one (fun _ _ _ _ _ _ us hl => match us, hl with | [_, _], _ => rfl) (fun vs H Q E h => ?_) (fun f cdv A outer s H vs Q E hr h => ?_)
  · obtain ⟨_, _, _, _, rfl, _⟩ := h; rfl
  · obtain ⟨a, y, n, L, rfl, ha, ⟨l, h, z, e, t, rfl⟩, ⟨q, zs, rfl, hq, hzs⟩, hL, k⟩ := h
    have hlen : zs.length = L.length := Paired.length hzs
    refine ⟨_, (pss_cons (ps_for PassesOwn.never rfl (pi_tup (pv 1)) (pg_name (i := 2) sc_is_within_one.nd rfl (Or.inl rfl)) (pss_one (ps_if (pt_val (pcall (ok_is_within T) (hr.mono (by decide)) rfl (pa_cons (pv 0) (pa_cons (pv 2) pa_nil)))) (pss_one (ps_ret pe_bl)) pss_nil)))
        (pss_one (ps_ret pe_bl))), ?_⟩
    refine ⟨_, rfl, q, rfl, ⟨_, hq⟩, for_it (walk_tup (K := K) (a := q) (xs := zs)) (fun j σ H1 => ∃ o, σ = [some (.ref a), some (.ref q), o] ∧ H1 = H ∧ (L.take j).any (withinB [l, h, z, e, t]) = false) ⟨none, rfl, rfl, rfl⟩ (fun _ _ _ _ ⟨_, _, e, _⟩ => by rw [e]; exact hq) ?_ ?_⟩
    · rintro j x σ H1 H2 hj ⟨o, rfl, rfl, hany⟩ ⟨rfl, hx⟩
      obtain ⟨m, hm, b, rfl, hb⟩ := paired_atL hzs hx
      obtain ⟨l', h', z', e', t', rfl, _⟩ := hL m (List.mem_of_getElem? hm)
      refine ⟨_, rfl, _, rfl, a, b, l, h, z, e, t, l', h', z', e', t', rfl, ha, hb, _, rfl, ite_b (fun e1 => ?_) fun e1 => ?_⟩
      · have : L.any (withinB [l, h, z, e, t]) = true := List.any_eq_true.mpr ⟨_, List.mem_of_getElem? hm, e1⟩
        rw [this] at k
        exact k
      · refine ⟨_, rfl, rfl, ?_⟩
        rw [take_snoc hm, List.any_append, hany, Bool.false_or, List.any_cons, e1]
        rfl
    · rintro σ H1 ⟨o, rfl, rfl, hany⟩
      rw [hlen, List.take_length] at hany
      rw [hany] at k
      exact k
def sp_are_rising (K : PySem.W.Frag) (mg : Str → Option Value) : Sp := fun vs H Q _ => ∃ y f L, vs = [y, .ref f] ∧ mg "is_cell" = some (.ref f) ∧ RowT K H y L ∧ (∀ m ∈ L, CellOk m) ∧ RiseOk L ∧ ∀ H', Same H H' → Q (.bl true) H'
abbrev N_are_rising : List Str := ["some", "is_one", "before", "one"]
theorem sc_are_rising : FnScope N_are_rising ["some", "is_one"] (defScope s_are_rising) := ⟨rfl, rfl, rfl, by decide +kernel, rfl, by decide +kernel, by decide +kernel⟩
theorem ok_are_rising (T : TX K mg) : Ok P w K mg base 3 "are_rising" ["some", "is_one"] (sp_are_rising K mg) := by
  refine T.d_are_rising.ok sc_are_rising (fun _ _ _ _ _ _ us hl => match us, hl with | [_, _], _ => rfl) (fun vs H Q E h => ?_) (fun f cdv A outer s H vs Q E hr h => ?_)
  · obtain ⟨_, _, _, rfl, _⟩ := h; rfl
  · obtain ⟨y, fc, L, rfl, hfc, ⟨q, zs, rfl, hq, hzs⟩, hL, hR, k⟩ := h
    have hlen : zs.length = L.length := Paired.length hzs
    obtain ⟨fc2, fdc, Fc, hmc, hkc, hbc⟩ := ok_is_cell (P := P) (w := w) (base := base) T
    obtain rfl : fc = fc2 := by rw [hfc] at hmc; cases hmc; rfl
    refine ⟨_, (pss_cons (ps_if (pt_not (pt_val (pe_callB call_isi rfl T.n_isinstance (by decide +kernel) (pa_cons (pv 0) (pa_cons (pe_bltn (v := .ty "tuple") rfl T.n_tuple (by decide +kernel) rfl) pa_nil))))) (pss_one (ps_ret pe_bl)) pss_nil)
        (pss_cons (ps_set (i := 2) sc_are_rising.nd rfl (Or.inl rfl) (pe_tup pa_nil))
        (pss_cons (ps_for PassesOwn.never rfl (pi_tup (pv 0)) (pg_name (i := 3) sc_are_rising.nd rfl (Or.inl rfl)) (pss_cons (ps_if (PW.pt (pw_or (pt_not (pt_val (pe_callL (i := 1) Fc (hr.mono (by decide)) rfl (Or.inl rfl) hkc hbc .nil pass0 (pa_cons (pv 3) pa_nil)))) (pw_or1 (pt_cmpR (op_leT hr.units0) (pv 3) (pv 2) (nomark _))))) (pss_one (ps_ret pe_bl)) pss_nil)
          (pss_one (ps_set (i := 2) sc_are_rising.nd rfl (Or.inl rfl) (pv 3)))))
        (pss_one (ps_ret pe_bl))))), ?_⟩
    refine ⟨_, rfl, .ref q, .ty "tuple", .type "tuple", .type "tuple", true, rfl, .ty _, ty_tup hq, kit_self, _, rfl, iteF ?_⟩
    refine ⟨(by show 0 ≤ sizeLine; decide), fun p hp => ?_⟩
    have s1 := same_new (o := .tup []) hp
    refine ⟨_, rfl, q, rfl, ⟨_, same_sqT s1 hq⟩, for_it (walk_tup (K := K) (a := q) (xs := zs)) (fun j σ H1 => ∃ b ns o, σ = [some (.ref q), some (.ref fc), some (.ref b), o] ∧ Same H H1 ∧ SqT K H1 b (ns.map V.int) ∧ ∀ n : List Int, L[j]? = some n → leI n ns = false) ⟨p, [], none, rfl, s1, SqT.of upd_same, hR.1⟩ (fun _ _ _ _ ⟨_, _, _, _, e, _⟩ => same_sqT e hq) ?_ ?_⟩
    · rintro j x σ H1 H2 hj ⟨b, ns, o, rfl, sm, hb, hle⟩ ⟨rfl, hx⟩
      obtain ⟨m, hm, c, rfl, hc⟩ := paired_atL hzs hx
      have hc2 := same_sqT sm hc
      refine ⟨rfl, _, rfl, c, m, rfl, hc2, hL m (List.mem_of_getElem? hm), _, rfl, iteF ?_⟩
      refine ⟨_, rfl, _, rfl, c, b, m, ns, rfl, rfl, hc2, hb, _, rfl, ?_⟩
      rw [show Ob.lexAt (fun j => decide (m.getD j 0 = ns.getD j 0)) (fun j => decide (m.getD j 0 ≤ ns.getD j 0)) (decide (m.length ≤ ns.length)) 0 (min m.length ns.length) = false from hle m hm]
      exact iteF ⟨_, rfl, c, m, _, rfl, sm, hc2, fun n hn => hR.2 j m n hm hn⟩
    · rintro σ H1 ⟨b, ns, o, rfl, sm, _⟩
      exact k H1 sm
end

/-- the cells of all rows, told one by one -/
structure EntOk (Pr : Pg) (out : List (List (List Int))) : Prop where
  len : out.length = Pr.length
  cells : ∀ L ∈ out, (∀ m ∈ L, CellOk m) ∧ RiseOk L
  table : ∀ (i : Nat) (r : Rw) (L : List (List Int)), Pr[i]? = some r → out[i]? = some L → eqS r.d "data" = true → L = []
  many : (out.map List.length).sum ≤ 3000
def KeepsAll (Pr : Pg) (S : List Sg) (out : List (List (List Int))) (i : Nat) (n : List Int) : Prop := ∃ lo hi z e t : Int, n = [lo, hi, z, e, t] ∧ Rng lo hi z ∧ (∃ r, RowOk Pr S i r) ∧ ∀ m ∈ comesOf Pr S i lo hi z, ∃ L, out[m.r]? = some L ∧
  L.any (withinB (if waitAt Pr i = true then [m.lo, m.hi, m.z, 0, 0] else [m.lo, m.hi, m.z, e + m.ls, t + m.ms])) = true
structure PaperOk (Pr : Pg) (S : List Sg) (out : List (List (List Int))) : Prop where
  ent : EntOk Pr out
  first : ∃ L, out[0]? = some L ∧ L.any (withinB [0, 0, 1, 0, 0]) = true
  keeps : ∀ (i : Nat) (L : List (List Int)) (n : List Int), out[i]? = some L → n ∈ L → KeepsAll Pr S out i n
theorem sum_take {l : List Nat} {i n : Nat} (h : l[i]? = some n) : (l.take (i + 1)).sum = (l.take i).sum + n := by
  rw [take_snoc h, List.sum_append, List.sum_cons, List.sum_nil, Nat.add_zero]
section
variable {P : Program} {w : World} {K : PySem.W.Frag} {mg : Str → Option Value} {base : Heap}
def sp_are_entries (K : PySem.W.Frag) (mg : Str → Option Value) : Sp := fun vs H Q _ => ∃ a t f Pr out, vs = [.ref a, .ref t, .ref f] ∧ mg "is_cell" = some (.ref f) ∧ PgAt K H a Pr ∧ PapV K H t out ∧ EntOk Pr out ∧ ∀ H', Same H H' → Q (.bl true) H'
abbrev N_are_entries : List Str := ["program", "thing", "is_one", "many", "row", "some"]
theorem sc_are_entries : FnScope N_are_entries ["program", "thing", "is_one"] (defScope s_are_entries) := ⟨rfl, rfl, rfl, by decide +kernel, rfl, by decide +kernel, by decide +kernel⟩
theorem ok_are_entries (T : TX K mg) : Ok P w K mg base 4 "are_entries" ["program", "thing", "is_one"] (sp_are_entries K mg) := by
  refine T.d_are_entries.ok sc_are_entries (fun _ _ _ _ _ _ us hl => match us, hl with | [_, _, _], _ => rfl) (fun vs H Q E h => ?_) (fun f cdv A outer s H vs Q E hr h => ?_)
  · obtain ⟨_, _, _, _, _, rfl, _⟩ := h; rfl
  · obtain ⟨a, t, f, Pr, out, rfl, hf, ⟨rs, hpr, hrs⟩, ⟨ys, hys, hyo⟩, E, k⟩ := h
    have hl1 : rs.length = Pr.length := Paired.length hrs
    have hl2 : ys.length = out.length := Paired.length hyo
    have hll : (rs.map V.ref).length = ys.length := by rw [List.length_map, hl1, hl2, E.len]
    refine ⟨_, (pss_cons (ps_if (PW.pt (pw_or (pt_not (pt_val (pe_callB call_isi rfl T.n_isinstance (by decide +kernel) (pa_cons (pv 1) (pa_cons (pe_bltn (v := .ty "tuple") rfl T.n_tuple (by decide +kernel) rfl) pa_nil))))) (pw_or1 (pt_cmpR op_ne (pe_callB call_len_seq rfl T.n_len (by decide +kernel) (pa_cons (pv 1) pa_nil)) (pe_callB call_len_seq rfl T.n_len (by decide +kernel) (pa_cons (pv 0) pa_nil)) (nomark _))))) (pss_one (ps_ret pe_bl)) pss_nil)
        (pss_cons (ps_set (i := 3) sc_are_entries.nd rfl (Or.inl rfl) pe_int)
        (pss_cons (ps_for PassesOwn.never rfl (RZ.pi_zipA rfl T.n_zip (pa_cons (pv 0) (pa_cons (pv 1) pa_nil))) (pg_tup rfl (pgs_cons (pg_name (i := 4) sc_are_entries.nd rfl (Or.inl rfl)) (pgs_cons (pg_name (i := 5) sc_are_entries.nd rfl (Or.inl rfl)) pgs_nil))) (pss_cons (ps_if (PW.pt (pw_or (pt_not (pt_val (pcall (ok_are_rising T) (hr.mono (by decide)) rfl (pa_cons (pv 5) (pa_cons (pv 2) pa_nil))))) (pw_or1 (PW.pt (pw_and (pt_val (pcall (ok_is_table T) (hr.mono (by decide)) rfl (pa_cons (pv 4) pa_nil))) (pw_and1 (pt_cmpR op_gt (pe_callB call_len_seq rfl T.n_len (by decide +kernel) (pa_cons (pv 5) pa_nil)) pe_int (nomark _)))))))) (pss_one (ps_ret pe_bl)) pss_nil)
          (pss_one (ps_set (i := 3) sc_are_entries.nd rfl (Or.inl rfl) (pe_op op_add (pv 3) (pe_callB call_len_seq rfl T.n_len (by decide +kernel) (pa_cons (pv 5) pa_nil)))))))
        (pss_one (ps_ret (pe_cmpR op_le (pv 3) (pgi T.i_MOST_CELLS rfl) (nomark _))))))), ?_⟩
    refine ⟨_, rfl, .ref t, .ty "tuple", .type "tuple", .type "tuple", true, rfl, .ty _, ty_tup hys, kit_self, _, rfl, iteF ⟨_, rfl, t, _, rfl, .inr hys, _, rfl, a, _, rfl, .inr hpr, rfl, _, rfl, ?_⟩⟩
    rw [hll, show decide (V.int ((ys.length : Nat) : Int) = V.int ((ys.length : Nat) : Int)) = true from decide_eq_true rfl]
    refine iteF ?_
    refine ⟨_, rfl, _, rfl, a, t, _, ys, rfl, .inr ⟨hpr, hys, RZ.for_zipT (K := K) (a := a) (b := t) (xs := rs.map V.ref) (ys := ys) hll (fun j σ H1 => ∃ o1 o2, σ = [some (.ref a), some (.ref t), some (.ref f), some (.int (((out.map List.length).take j).sum : Nat)), o1, o2] ∧ Same H H1)
      ⟨none, none, rfl, Same.refl H⟩ (fun _ _ _ ⟨_, _, _, sm⟩ => ⟨same_sqT sm hpr, same_sqT sm hys⟩) ?_ ?_⟩⟩
    · rintro j x y TT σ H1 hx hy ⟨o1, o2, rfl, sm⟩ hT
      have s2 := sm.trans (same_new (o := .tup [x, y]) hT)
      rw [List.getElem?_map] at hx
      cases hrj : rs[j]? with
      | none => rw [hrj] at hx; cases hx
      | some rb =>
        rw [hrj] at hx
        cases hx
        obtain ⟨r, hr, hrow⟩ := paired_atL hrs hrj
        obtain ⟨L, hL, hRow⟩ := paired_atL hyo hy
        obtain ⟨hc, hR⟩ := E.cells L (List.mem_of_getElem? hL)
        have hRow2 := hRow.sameT (sameT_of s2)
        refine ⟨TT, _, rfl, SqT.of upd_same, rfl, _, _, rfl, _, _, rfl, rfl, ?_⟩
        refine ⟨_, rfl, _, rfl, y, f, L, rfl, hf, hRow2, hc, hR, fun H3 s3 => ⟨_, rfl, iteF ?_⟩⟩
        have s3' := s2.trans s3
        have sums : (((out.map List.length).take j).sum : Nat) + L.length = ((out.map List.length).take (j + 1)).sum := by
          rw [sum_take (n := L.length) (by rw [List.getElem?_map, hL]; rfl)]
        obtain ⟨q, zs, rfl, hq, hzs⟩ := hRow.sameT (sameT_of s3')
        have hzl : zs.length = L.length := Paired.length hzs
        refine ⟨_, rfl, rb, r, rfl, same_sqT s3' hrow, _, rfl, ite_b (fun e1 => ?_) fun e1 => ?_⟩
        · have hL0 := E.table j r L hr hL e1
          have hz0 : zs.length = 0 := by rw [hzl, hL0]; rfl
          refine ⟨_, rfl, q, _, rfl, .inr hq, _, _, rfl, rfl, _, rfl, ?_⟩
          rw [decide_eq_false (show ¬ (0 : Int) < ((zs.length : Nat) : Int) by omega)]
          refine iteF ⟨_, rfl, _, rfl, q, _, rfl, .inr hq, _, _, rfl, rfl, some (.ref rb), some (.ref q), ?_, s3'⟩
          rw [← sums, hzl]
          rfl
        · refine iteF ⟨_, rfl, _, rfl, q, _, rfl, .inr hq, _, _, rfl, rfl, some (.ref rb), some (.ref q), ?_, s3'⟩
          rw [← sums, hzl]
          rfl
    · rintro σ H1 ⟨o1, o2, rfl, sm⟩
      refine ⟨_, rfl, _, _, rfl, rfl, ?_⟩
      rw [hll, hl2, show out.length = (out.map List.length).length from (List.length_map ..).symm, List.take_length]
      have e3 : decide ((((out.map List.length).sum : Nat) : Int) ≤ 3000) = true := decide_eq_true (by have := E.many; omega)
      show Q (.bl (decide ((((out.map List.length).sum : Nat) : Int) ≤ 3000))) H1
      rw [e3]
      exact k H1 sm
def sp_are_cells (K : PySem.W.Frag) : Sp := fun vs H Q _ => ∃ a t Pr out, vs = [.ref a, .ref t] ∧ PgAt K H a Pr ∧ PapV K H t out ∧ EntOk Pr out ∧ ∀ H', Same H H' → Q (.bl true) H'
abbrev N_are_cells : List Str := ["program", "thing"]
theorem sc_are_cells : FnScope N_are_cells ["program", "thing"] (defScope s_are_cells) := ⟨rfl, rfl, rfl, by decide +kernel, rfl, by decide +kernel, by decide +kernel⟩
theorem ok_are_cells (T : TX K mg) : Ok P w K mg base 5 "are_cells" ["program", "thing"] (sp_are_cells K) := by
  refine T.d_are_cells.ok sc_are_cells (fun _ _ _ _ _ _ us hl => match us, hl with | [_, _], _ => rfl) (fun vs H Q E h => ?_) (fun f cdv A outer s H vs Q E hr h => ?_)
  · obtain ⟨_, _, _, _, rfl, _⟩ := h; rfl
  · obtain ⟨a, t, Pr, out, rfl, hP, ho, E, k⟩ := h
    refine ⟨_, (pss_one (ps_ret (pcall (ok_are_entries T) (hr.mono (by decide)) rfl (pa_cons (pv 0) (pa_cons (pv 1) (pa_cons (pgf (ok_is_cell T) rfl) pa_nil)))))), ?_⟩
    exact ⟨_, rfl, _, rfl, fun f hf => ⟨a, t, f, Pr, out, rfl, hf, hP, ho, E, k⟩⟩
def sp_cell_keeps (K : PySem.W.Frag) : Sp := fun vs H Q _ => ∃ a sg t i cb Pr S out n, vs = [.ref a, .ref sg, .ref t, .int (i : Nat), .ref cb] ∧ PgAt K H a Pr ∧ Pr.length ≤ 1000 ∧ SgsAt K H sg S ∧ PapV K H t out ∧ EntOk Pr out ∧ SqT K H cb (n.map V.int) ∧ KeepsAll Pr S out i n ∧ ∀ H', Same H H' → Q (.bl true) H'
abbrev N_cell_keeps : List Str := ["program", "signs", "thing", "row", "cell", "low", "high", "zero", "early", "late", "is_wait", "other", "begin", "end", "flag", "least", "most", "come"]
theorem sc_cell_keeps : FnScope N_cell_keeps ["program", "signs", "thing", "row", "cell"] (defScope s_cell_keeps) := ⟨rfl, rfl, rfl, by decide +kernel, rfl, by decide +kernel, by decide +kernel⟩
theorem ok_cell_keeps (T : TX K mg) : Ok P w K mg base 5 "cell_keeps" ["program", "signs", "thing", "row", "cell"] (sp_cell_keeps K) := by
  refine T.d_cell_keeps.ok sc_cell_keeps (fun _ _ _ _ _ _ us hl => match us, hl with | [_, _, _, _, _], _ => rfl) (fun vs H Q E h => ?_) (fun f cdv A outer s H vs Q E hr h => ?_)
  · obtain ⟨_, _, _, _, _, _, _, _, _, rfl, _⟩ := h; rfl
  · obtain ⟨a, sg, t, i, cb, Pr, S, out, n, rfl, hP, hPl, hSg, ho, E, hcb, ⟨lo, hi, z, e, tt, rfl, R, ⟨r, RO⟩, hK⟩, k⟩ := h
    obtain ⟨rs, rb, hpr, hbr, hrow⟩ := hP.at RO.at_
    obtain ⟨ys, hys, hyo⟩ := id ho
    refine ⟨_, (pss_cons (ps_asg (pv 4) (pg_tup rfl (pgs_cons (pg_name (i := 5) sc_cell_keeps.nd rfl (Or.inl rfl)) (pgs_cons (pg_name (i := 6) sc_cell_keeps.nd rfl (Or.inl rfl)) (pgs_cons (pg_name (i := 7) sc_cell_keeps.nd rfl (Or.inl rfl)) (pgs_cons (pg_name (i := 8) sc_cell_keeps.nd rfl (Or.inl rfl)) (pgs_cons (pg_name (i := 9) sc_cell_keeps.nd rfl (Or.inl rfl)) pgs_nil)))))))
        (pss_cons (ps_set (i := 10) sc_cell_keeps.nd rfl (Or.inl rfl) (pe_cmpR op_eq (pe_ix ix_tup (pe_ix ix_tup (pv 0) (pv 3) (fun _ _ => rfl)) pe_int (fun _ _ => rfl)) pe_str (nomark _)))
        (pss_cons (ps_for PassesOwn.never rfl (pi_list (pcall (ok_comes_of T) (hr.mono (by decide)) rfl (pa_cons (pv 0) (pa_cons (pv 1) (pa_cons (pv 3) (pa_cons (pv 5) (pa_cons (pv 6) (pa_cons (pv 7) pa_nil)))))))) (pg_tup rfl (pgs_cons (pg_name (i := 11) sc_cell_keeps.nd rfl (Or.inl rfl)) (pgs_cons (pg_name (i := 12) sc_cell_keeps.nd rfl (Or.inl rfl)) (pgs_cons (pg_name (i := 13) sc_cell_keeps.nd rfl (Or.inl rfl)) (pgs_cons (pg_name (i := 14) sc_cell_keeps.nd rfl (Or.inl rfl)) (pgs_cons (pg_name (i := 15) sc_cell_keeps.nd rfl (Or.inl rfl)) (pgs_cons (pg_name (i := 16) sc_cell_keeps.nd rfl (Or.inl rfl)) pgs_nil))))))) (pss_cons (ps_set (i := 17) sc_cell_keeps.nd rfl (Or.inl rfl) (pe_tup (pa_cons (pv 12) (pa_cons (pv 13) (pa_cons (pv 14) (pa_cons (pe_op op_add (pv 8) (pv 15)) (pa_cons (pe_op op_add (pv 9) (pv 16)) pa_nil)))))))
          (C8.pss_cut (ps_if (pt_val (pv 10)) (pss_one (ps_set (i := 17) sc_cell_keeps.nd rfl (Or.inl rfl) (pe_tup (pa_cons (pv 12) (pa_cons (pv 13) (pa_cons (pv 14) (pa_cons pe_int (pa_cons pe_int pa_nil)))))))) pss_nil)
          (pss_one (ps_if (pt_not (pt_val (pcall (ok_is_within_one T) (hr.mono (by decide)) rfl (pa_cons (pv 17) (pa_cons (pe_ix ix_tup (pv 2) (pv 11) (fun _ _ => rfl)) pa_nil))))) (pss_one (ps_ret pe_bl)) pss_nil)))))
        (pss_one (ps_ret pe_bl))))), ?_⟩
    refine ⟨_, rfl, cb, _, rfl, hcb, rfl, _, _, rfl, _, _, rfl, _, _, rfl, _, _, rfl, _, _, rfl, rfl, ?_⟩
    refine ⟨_, rfl, _, rfl, a, _, _, _, rfl, rfl, hpr, nat_at hbr, rb, _, _, _, rfl, rfl, hrow, rfl, rfl, ?_⟩
    refine ⟨_, rfl, _, rfl, _, rfl, _, rfl, _, rfl, _, rfl, a, sg, Pr, S, i, lo, hi, z, r, rfl, hP, hPl, hSg, R, RO, fun H1 pl vs L s1 hpn hpl hvs hL2 hmem => ?_⟩
    have hvl : vs.length = L.length := Paired.length hvs
    have hwt : decide (V.str r.d = V.str "wait") = waitAt Pr i := (wait_eq RO.at_).symm
    rw [hwt]
    refine ⟨pl, rfl, ⟨_, SqL.of hpl⟩, for_list (K := K) (a := pl) (xs := vs) (fun j σ H3 => ∃ o1 o2 o3 o4 o5 o6 o7, σ = [some (.ref a), some (.ref sg), some (.ref t), some (.int (i : Nat)), some (.ref cb), some (.int lo), some (.int hi), some (.int z), some (.int e), some (.int tt), some (.bl (waitAt Pr i)), o1, o2, o3, o4, o5, o6, o7] ∧ Same H1 H3)
      ⟨none, none, none, none, none, none, none, rfl, Same.refl H1⟩ (fun j σ H3 _ ⟨_, _, _, _, _, _, _, _, sm⟩ => SqL.of (sm _ _ hpl)) ?_ ?_⟩
    · rintro j v σ H3 hj ⟨o1, o2, o3, o4, o5, o6, o7, rfl, sm⟩
      obtain ⟨c, hc, q, rfl, hq⟩ := paired_atL hvs hj
      have hm := (hmem c).mp (List.mem_of_getElem? hc)
      obtain ⟨L', hL', hany⟩ := hK c hm
      obtain ⟨y, hy, hRow⟩ := paired_atR hyo hL'
      refine ⟨q, _, rfl, SqT.of (sm _ _ hq), rfl, _, _, rfl, _, _, rfl, _, _, rfl, _, _, rfl, _, _, rfl, _, _, rfl, rfl, ?_⟩
      refine ⟨_, rfl, _, rfl, _, rfl, _, rfl, _, rfl, _, _, rfl, rfl, _, rfl, _, rfl, _, _, rfl, rfl, (by show 5 ≤ sizeLine; decide), fun u hu => ?_⟩
      have s2 := s1.trans (sm.trans (same_new (o := .tup [.int c.lo, .int c.hi, .int c.z, .int (e + c.ls), .int (tt + c.ms)]) hu))
      refine ⟨fun σ' H' => ∃ u2, σ' = [some (.ref a), some (.ref sg), some (.ref t), some (.int (i : Nat)), some (.ref cb), some (.int lo), some (.int hi), some (.int z), some (.int e), some (.int tt), some (.bl (waitAt Pr i)), some (.int (c.r : Nat)), some (.int c.lo), some (.int c.hi), some (.int c.z), some (.int c.ls), some (.int c.ms), some (.ref u2)] ∧ Same H1 H' ∧
        SqT K H' u2 ((if waitAt Pr i = true then [c.lo, c.hi, c.z, 0, 0] else [c.lo, c.hi, c.z, e + c.ls, tt + c.ms]).map V.int), ⟨_, rfl, _, rfl, ite_b (fun e1 => ?_) fun e1 => ?_⟩, ?_⟩
      · refine ⟨_, rfl, _, rfl, _, rfl, (by show 5 ≤ sizeLine; decide), fun u2 hu2 => ⟨u2, rfl, (sm.trans (same_new hu)).trans (same_new hu2), ?_⟩⟩
        rw [if_pos e1]
        exact SqT.of upd_same
      · refine ⟨u, rfl, sm.trans (same_new hu), ?_⟩
        rw [if_neg (by rw [e1]; exact Bool.false_ne_true)]
        exact SqT.of upd_same
      · rintro σ' H4 ⟨u2, rfl, s4, hu2⟩
        have s04 := s1.trans s4
        refine ⟨_, rfl, _, rfl, _, rfl, t, _, _, _, rfl, rfl, same_sqT s04 hys, nat_at hy, u2, y, _, L', rfl, hu2, ?_, hRow.sameT (sameT_of s04), (E.cells L' (List.mem_of_getElem? hL')).1, ?_⟩
        · cases waitAt Pr i with
          | true => exact ⟨_, _, _, _, _, rfl⟩
          | false => exact ⟨_, _, _, _, _, rfl⟩
        · rw [hany]
          exact ⟨_, rfl, iteF ⟨_, _, _, _, _, _, _, rfl, s4⟩⟩
    · rintro σ H3 ⟨o1, o2, o3, o4, o5, o6, o7, rfl, sm⟩
      exact k H3 (s1.trans sm)
def sp_right_times (K : PySem.W.Frag) : Sp := fun vs H Q _ => ∃ a t Pr out, vs = [.ref a, .int 0, .ref t] ∧ PgAt K H a Pr ∧ Pr.length ≤ 1000 ∧ (Pr.map fun r => byteC r.d).sum ≤ 256 ∧ SignsOk Pr ∧ PapV K H t out ∧ PaperOk Pr (signsOf Pr) out ∧ ∀ H', Same H H' → Q (.bl true) H'
abbrev N_right_times : List Str := ["program", "base", "thing", "signs", "row", "some", "cell"]
theorem sc_right_times : FnScope N_right_times ["program", "base", "thing"] (defScope s_right_times) := ⟨rfl, rfl, rfl, by decide +kernel, rfl, by decide +kernel, by decide +kernel⟩
theorem ok_right_times (T : TX K mg) : Ok P w K mg base 6 "right_times" ["program", "base", "thing"] (sp_right_times K) := by
  refine T.d_right_times.ok sc_right_times (fun _ _ _ _ _ _ us hl => match us, hl with | [_, _, _], _ => rfl) (fun vs H Q E h => ?_) (fun f cdv A outer s H vs Q E hr h => ?_)
  · obtain ⟨_, _, _, _, rfl, _⟩ := h; rfl
  · obtain ⟨a, t, Pr, out, rfl, hP, hPl, hsum, hso, ho, O, k⟩ := h
    obtain ⟨ys, hys, hyo⟩ := id ho
    refine ⟨_, (pss_cons (ps_set (i := 3) sc_right_times.nd rfl (Or.inl rfl) (pcall (ok_page_signs T) (hr.mono (by decide)) rfl (pa_cons (pv 0) (pa_cons (pv 1) pa_nil))))
        (pss_cons (ps_if (PW.pt (pw_or (pt_not (pt_val (pcall (ok_are_cells T) (hr.mono (by decide)) rfl (pa_cons (pv 0) (pa_cons (pv 2) pa_nil))))) (pw_or1 (pt_not (pt_val (pcall (ok_is_within_one T) (hr.mono (by decide)) rfl (pa_cons (pgt T.c_FIRST_CELL rfl) (pa_cons (pe_ix ix_tup (pv 2) pe_int (fun _ _ => rfl)) pa_nil)))))))) (pss_one (ps_ret pe_bl)) pss_nil)
        (pss_cons (ps_for PassesOwn.never rfl (pi_enumT rfl T.n_enumerate (pa_cons (pv 2) pa_nil)) (pg_tup rfl (pgs_cons (pg_name (i := 4) sc_right_times.nd rfl (Or.inl rfl)) (pgs_cons (pg_name (i := 5) sc_right_times.nd rfl (Or.inl rfl)) pgs_nil))) (pss_one (ps_for PassesOwn.never rfl (pi_tup (pv 5)) (pg_name (i := 6) sc_right_times.nd rfl (Or.inl rfl)) (pss_one (ps_if (pt_not (pt_val (pcall (ok_cell_keeps T) (hr.mono (by decide)) rfl (pa_cons (pv 0) (pa_cons (pv 3) (pa_cons (pv 2) (pa_cons (pv 4) (pa_cons (pv 6) pa_nil)))))))) (pss_one (ps_ret pe_bl)) pss_nil)))))
        (pss_one (ps_ret pe_bl))))), ?_⟩
    refine ⟨_, rfl, _, rfl, a, Pr, rfl, hP, hPl, hsum, hso, fun H1 sg s1 hSg => ?_⟩
    refine ⟨_, rfl, _, rfl, a, t, Pr, out, rfl, hP.same s1, ho.sameT (sameT_of s1), O.ent, fun H2 s2 => ⟨_, rfl, iteF ?_⟩⟩
    have s02 := s1.trans s2
    obtain ⟨L0, hL0, hany0⟩ := O.first
    obtain ⟨y0, hy0, hRow0⟩ := paired_atR hyo hL0
    refine fun fc hfc => ⟨_, rfl, t, _, _, _, rfl, rfl, same_sqT s02 hys, nat_at (i := 0) hy0, fc, y0, [0, 0, 1, 0, 0], L0, rfl, hfc _, ⟨_, _, _, _, _, rfl⟩, hRow0.sameT (sameT_of s02), (O.ent.cells L0 (List.mem_of_getElem? hL0)).1, ?_⟩
    rw [hany0]
    refine ⟨_, rfl, iteF ?_⟩
    refine ⟨_, rfl, t, ys, rfl, same_sqT s02 hys, for_it (walk_enumT (K := K) (a := t) (xs := ys)) (fun j σ H3 => ∃ o1 o2 o3, σ = [some (.ref a), some (.int 0), some (.ref t), some (.ref sg), o1, o2, o3] ∧ Same H2 H3) ⟨none, none, none, rfl, Same.refl H2⟩ (fun _ _ _ _ ⟨_, _, _, _, sm⟩ => same_sqT (s02.trans sm) hys) ?_ ?_⟩
    · rintro j x σ H3 H4 hj ⟨o1, o2, o3, rfl, sm⟩ ⟨TT, i', y, rfl, hT, rfl, hi', hy⟩
      cases hi'
      have s3 := sm.trans (same_new (o := .tup [.int (j : Nat), y]) hT)
      obtain ⟨L, hL, hRow⟩ := paired_atL hyo hy
      obtain ⟨q, zs, rfl, hq, hzs⟩ := hRow
      refine ⟨TT, _, rfl, SqT.of upd_same, rfl, _, _, rfl, _, _, rfl, rfl, ?_⟩
      refine ⟨_, rfl, q, rfl, ⟨_, same_sqT (s02.trans s3) hq⟩, for_it (walk_tup (K := K) (a := q) (xs := zs)) (fun j2 σ H5 => ∃ o3, σ = [some (.ref a), some (.int 0), some (.ref t), some (.ref sg), some (.int (j : Nat)), some (.ref q), o3] ∧ Same H2 H5) ⟨o3, rfl, s3⟩ (fun _ _ _ _ ⟨_, _, sm⟩ => same_sqT (s02.trans sm) hq) ?_ ?_⟩
      · rintro j2 x σ H5 H6 hj2 ⟨o3, rfl, sm5⟩ ⟨rfl, hx⟩
        obtain ⟨n, hn, cb, rfl, hcb⟩ := paired_atL hzs hx
        have s05 := s02.trans sm5
        exact ⟨_, rfl, _, rfl, _, rfl, _, rfl, _, rfl, a, sg, t, j, cb, Pr, _, out, n, rfl, hP.same s05, hPl, hSg.same (s2.trans sm5), ho.sameT (sameT_of s05), O.ent, same_sqT s05 hcb, O.keeps j L n hL (List.mem_of_getElem? hn), fun H7 s7 => ⟨_, rfl, iteF ⟨_, rfl, sm5.trans s7⟩⟩⟩
      · rintro σ H5 ⟨o3, rfl, sm5⟩
        exact ⟨_, _, _, rfl, sm5⟩
    · rintro σ H3 ⟨o1, o2, o3, rfl, sm⟩
      exact k H3 (s02.trans sm)
end

theorem cutV_init {xs : List V} (h : 0 < xs.length) : cutV xs none (some (-1)) = xs.dropLast := by
  unfold cutV
  have e : HT.sIx xs.length xs.length (some (-1)) = xs.length - 1 := by
    show (if (-1 : Int) < 0 then ((-1 : Int) + (xs.length : Int)).toNat else min (-1 : Int).toNat xs.length) = xs.length - 1
    rw [if_pos (by decide)]
    omega
  rw [e, HT.sIx_none, Nat.sub_zero, List.drop_zero, List.dropLast_eq_take]
theorem cutV_rest {xs : List V} (h : 0 < xs.length) : cutV xs (some 1) none = xs.tail := by
  unfold cutV
  have e : HT.sIx xs.length 0 (some 1) = 1 := by
    show (if (1 : Int) < 0 then ((1 : Int) + (xs.length : Int)).toNat else min (1 : Int).toNat xs.length) = 1
    rw [if_neg (by decide)]
    show min 1 xs.length = 1
    omega
  rw [e, HT.sIx_none, List.drop_one, List.take_of_length_le (by rw [List.length_tail]; exact Nat.le_refl _)]
theorem walk_zipT {K : PySem.W.Frag} {a b : Addr} {xs ys : List V} {n : Nat} (hn : n = min xs.length ys.length) : Walk (RZ.ItzT K a b) n (fun H => SqT K H a xs ∧ SqT K H b ys) (YPair (fun i => xs[i]?) (fun i => ys[i]?)) := by
  subst hn
  refine ⟨fun i _ hi q => ?_, fun _ q => ⟨xs, ys, q.1, q.2, by omega⟩, fun i H v H' _ q y => ?_⟩
  · have h1 : i < xs.length := by omega
    have h2 : i < ys.length := by omega
    exact ⟨xs, ys, xs[i], ys[i], q.1, q.2, by simp [h1], by simp [h2]⟩
  · obtain ⟨T, x, z, h1, h2, h3, h4, h5⟩ := y
    exact ⟨T, x, z, h1, h2, h3, h4 xs q.1, h5 ys q.2⟩
theorem nats_at {T : List Nat} {i n : Nat} (h : T[i]? = some n) : (natsV T)[i]? = some (.int (n : Nat)) := by
  unfold natsV
  rw [List.getElem?_map, h]
  rfl
theorem nats_of {T : List Nat} {i : Nat} {x : V} (h : (natsV T)[i]? = some x) : ∃ n, T[i]? = some n ∧ x = .int (n : Nat) := by
  unfold natsV at h
  rw [List.getElem?_map] at h
  cases e : T[i]? with
  | none => rw [e] at h; cases h
  | some n => rw [e] at h; exact ⟨n, rfl, (Option.some.inj h).symm⟩
theorem nats_init (T : List Nat) : (natsV T).dropLast = natsV T.dropLast := by unfold natsV; rw [List.map_dropLast]
theorem nats_rest (T : List Nat) : (natsV T).tail = natsV T.tail := by unfold natsV; rw [List.map_tail]
theorem init_at {T : List Nat} {i n : Nat} (h : T.dropLast[i]? = some n) : T[i]? = some n := by
  rw [List.dropLast_eq_take, List.getElem?_take] at h
  split at h
  · exact h
  · cases h
theorem rest_at {T : List Nat} {i n : Nat} (h : T.tail[i]? = some n) : T[i + 1]? = some n := by rwa [List.getElem?_tail] at h
def MostOk (Pr : Pg) (S : List Sg) (i o : Nat) (m : Int) : Prop := ∀ c ∈ comesOf Pr S i 0 255 0, c.r = o → c.ms ≤ m
/-- steps of a line -/
def StepOk (Pr : Pg) (S : List Sg) (i o : Nat) : Prop := (∃ r, RowOk Pr S i r) ∧ waitAt Pr i = false ∧ o ∈ nextRows Pr i ∧ ∃ c ∈ comesOf Pr S i 0 255 0, c.r = o
structure FlowOk (Pr : Pg) (S : List Sg) (T : List Nat) : Prop where
  rows : ∀ x ∈ T, x < Pr.length
  step : ∀ (j i o : Nat), T[j]? = some i → T[j + 1]? = some o → StepOk Pr S i o
structure LateR (Pr : Pg) (S : List Sg) (T : List Nat) : Prop where
  flow : FlowOk Pr S T
  two : 2 ≤ T.length
  forty : T.length ≤ 40
  begin_ : ∃ i, T[0]? = some i ∧ (i = 0 ∨ waitAt Pr (i - 1) = true)
  sum : ∀ ms : List Int, ms.length + 1 = T.length → (∀ (j i o : Nat) (m : Int), T[j]? = some i → T[j + 1]? = some o → ms[j]? = some m → MostOk Pr S i o m) → 30 < ms.sum
section
variable {P : Program} {w : World} {K : PySem.W.Frag} {mg : Str → Option Value} {base : Heap}
def sp_most_towards (K : PySem.W.Frag) : Sp := fun vs H Q _ => ∃ a sg i o Pr S, vs = [.ref a, .ref sg, .int (i : Nat), .int (o : Nat)] ∧ PgAt K H a Pr ∧ Pr.length ≤ 1000 ∧ SgsAt K H sg S ∧ StepOk Pr S i o ∧ ∀ H' m, Same H H' → MostOk Pr S i o m → Q (.int m) H'
abbrev N_most_towards : List Str := ["program", "signs", "row", "other", "comes", "come"]
theorem sc_most_towards : FnScope N_most_towards ["program", "signs", "row", "other"] (defScope s_most_towards) := ⟨rfl, rfl, rfl, by decide +kernel, rfl, by decide +kernel, by decide +kernel⟩
theorem ok_most_towards (T : TX K mg) : Ok P w K mg base 5 "most_towards" ["program", "signs", "row", "other"] (sp_most_towards K) := by
  refine T.d_most_towards.ok sc_most_towards (fun _ _ _ _ _ _ us hl => match us, hl with | [_, _, _, _], _ => rfl) (fun vs H Q E h => ?_) (fun f cdv A outer s H vs Q E hr h => ?_)
  · obtain ⟨_, _, _, _, _, _, rfl, _⟩ := h; rfl
  · obtain ⟨a, sg, i, o, Pr, S, rfl, hP, hPl, hSg, ⟨⟨r, RO⟩, _, _, hex⟩, k⟩ := h
    refine ⟨_, (pss_cons (ps_set (i := 4) sc_most_towards.nd rfl (Or.inl rfl) (pcall (ok_comes_of T) (hr.mono (by decide)) rfl (pa_cons (pv 0) (pa_cons (pv 1) (pa_cons (pv 2) (pa_cons pe_int (pa_cons (pgi T.i_MOST_BYTE rfl) (pa_cons pe_int pa_nil))))))))
        (pss_one (ps_ret (pe_callB (cr_max rfl) rfl T.n_max (by decide +kernel) (pa_cons (pe_lc (own := [("come", 5)]) (g := gName 5) (tt := tTest (tOp rEq (tOp (rIxT K) (tVar 5) (tC (.int 0))) (tVar 3))) (te := tOp (rIxT K) (tVar 5) (tC (.int 5))) rfl sc_most_towards.nd (pi_list (pv 4)) (blkOk_by (N := N_most_towards) (sc := defScope s_most_towards) (by decide +kernel)) (fun _ _ _ _ _ => (pg_name (i := 5) sc_most_towards.nd rfl (Or.inl rfl))) (fun _ _ _ _ _ => pts_one (pt_cmpR op_eq (pe_ix ix_tup (pv 5) pe_int (fun _ _ => rfl)) (pv 3) (nomark _))) (fun _ _ _ _ _ => (pe_ix ix_tup (pv 5) pe_int (fun _ _ => rfl)))) pa_nil))))), ?_⟩
    refine ⟨_, rfl, _, rfl, _, rfl, a, sg, Pr, S, i, 0, 255, 0, r, rfl, hP, hPl, hSg, ⟨by decide, by decide, by decide, .inl rfl⟩, RO, fun H1 pl vs L s1 hpn hpl hvs hL2 hmem => ?_⟩
    have hvl : vs.length = L.length := Paired.length hvs
    refine ⟨_, rfl, pl, rfl, ⟨_, SqL.of hpl⟩, fun D hD => lc_it (walk_list (K := K) (a := pl) (xs := vs)) (fun j H2 => Same H1 H2 ∧ ∃ ns : List Int, H2 D = some (.lst (ns.map V.int)) ∧ ns.length ≤ j ∧ ∀ x, x ∈ ns ↔ ∃ c ∈ L.take j, c.r = o ∧ c.ms = x)
      ⟨same_new hD, [], upd_same, Nat.le_refl _, fun x => by simp⟩ (fun _ _ _ q => SqL.of (q.1 _ _ hpl)) ?_ ?_⟩
    · rintro j x H2 H3 hj ⟨sm, ns, hns, hnl, hnm⟩ ⟨rfl, hx⟩
      obtain ⟨c, hc, q, rfl, hq⟩ := paired_atL hvs hx
      have hq2 := sm _ _ hq
      refine ⟨rfl, _, rfl, q, _, _, _, rfl, rfl, SqT.of hq2, rfl, _, rfl, rfl, _, rfl, ite_b (fun e => ?_) fun e => ?_⟩
      · have hco : c.r = o := by
          have : ((c.r : Nat) : Int) = (o : Nat) := V.int.inj (of_decide_eq_true e)
          omega
        refine ⟨_, rfl, q, _, _, _, rfl, rfl, SqT.of hq2, rfl, ns.map V.int, hns, small1000 (by rw [List.length_map]; omega), same_upd hD sm, ns ++ [c.ms], by rw [List.map_append]; exact upd_same, by rw [List.length_append]; exact Nat.succ_le_succ hnl, fun x => ?_⟩
        rw [take_snoc hc, List.mem_append, hnm]
        constructor
        · rintro (⟨c', h1, h2⟩ | h)
          · exact ⟨c', List.mem_append.mpr (.inl h1), h2⟩
          · exact ⟨c, List.mem_append.mpr (.inr (List.mem_singleton.mpr rfl)), hco, (List.mem_singleton.mp h).symm⟩
        · rintro ⟨c', h1, h2, h3⟩
          rcases List.mem_append.mp h1 with h1 | h1
          · exact .inl ⟨c', h1, h2, h3⟩
          · rw [List.mem_singleton.mp h1] at h3
            exact .inr (List.mem_singleton.mpr h3.symm)
      · have hco : ¬ c.r = o := fun h => by
          have := of_decide_eq_false e
          exact this (by rw [h])
        refine ⟨sm, ns, hns, by omega, fun x => ?_⟩
        rw [take_snoc hc, hnm]
        constructor
        · rintro ⟨c', h1, h2⟩
          exact ⟨c', List.mem_append.mpr (.inl h1), h2⟩
        · rintro ⟨c', h1, h2, h3⟩
          rcases List.mem_append.mp h1 with h1 | h1
          · exact ⟨c', h1, h2, h3⟩
          · rw [List.mem_singleton.mp h1] at h2
            exact absurd h2 hco
    · rintro H2 ⟨sm, ns, hns, hnl, hnm⟩
      rw [hvl, List.take_length] at hnm
      refine ⟨D, ns, rfl, SqL.of hns, ?_, fun m hm hmax => k H2 m (s1.trans sm) fun c hc hco => hmax _ ((hnm _).mpr ⟨c, (hmem c).mpr hc, hco, rfl⟩)⟩
      obtain ⟨c, hc, hco⟩ := hex
      exact List.length_pos_of_mem ((hnm _).mpr ⟨c, (hmem c).mpr hc, hco, rfl⟩)
def sp_is_line_begin (K : PySem.W.Frag) : Sp := fun vs H Q _ => ∃ a i Pr, vs = [.ref a, .int (i : Nat)] ∧ PgAt K H a Pr ∧ (i = 0 ∨ waitAt Pr (i - 1) = true) ∧ Q (.bl true) H
abbrev N_is_line_begin : List Str := ["program", "row"]
theorem sc_is_line_begin : FnScope N_is_line_begin ["program", "row"] (defScope s_is_line_begin) := ⟨rfl, rfl, rfl, by decide +kernel, rfl, by decide +kernel, by decide +kernel⟩
theorem ok_is_line_begin (T : TX K mg) : Ok P w K mg base 1 "is_line_begin" ["program", "row"] (sp_is_line_begin K) := by
  refine T.d_is_line_begin.ok sc_is_line_begin (fun _ _ _ _ _ _ us hl => match us, hl with | [_, _], _ => rfl) (fun vs H Q E h => ?_) (fun f cdv A outer s H vs Q E hr h => ?_)
  · obtain ⟨_, _, _, rfl, _⟩ := h; rfl
  · obtain ⟨a, i, Pr, rfl, hP, hi, k⟩ := h
    refine ⟨_, (pss_one (ps_ret (pe_or (pe_cmpR op_eq (pv 1) pe_int (nomark _)) (pe_one (pe_cmpR op_eq (pe_ix ix_tup (pe_ix ix_tup (pv 0) (pe_op op_sub (pv 1) pe_int) (fun _ _ => rfl)) pe_int (fun _ _ => rfl)) pe_str (nomark _)))))), ?_⟩
    refine ⟨_, rfl, rfl, _, rfl, ite_b (fun e => ?_) fun e => ?_⟩
    · exact k
    · have hi0 : ¬ i = 0 := fun h => of_decide_eq_false e (by rw [h]; rfl)
      have hw : waitAt Pr (i - 1) = true := by
        rcases hi with h | h
        · exact absurd h hi0
        · exact h
      cases hr : Pr[i - 1]? with
      | none => unfold waitAt at hw; rw [hr] at hw; cases hw
      | some r =>
        obtain ⟨rs, b, hpr, hb, hrow⟩ := hP.at hr
        have hw2 : decide (V.str r.d = V.str "wait") = true := (wait_eq hr).symm.trans hw
        refine ⟨_, rfl, _, rfl, _, _, rfl, rfl, a, _, _, _, rfl, rfl, hpr, ?_, b, _, _, _, rfl, rfl, hrow, rfl, rfl, ?_⟩
        · have := nat_at hb
          rw [show (((i - 1 : Nat) : Int)) = (i : Int) - 1 by omega] at this
          exact this
        · show Q (.bl (decide (V.str r.d = V.str "wait"))) H
          rw [hw2]
          exact k
def sp_is_flow (K : PySem.W.Frag) : Sp := fun vs H Q _ => ∃ a t Pr S T, vs = [.ref a, .ref t] ∧ PgAt K H a Pr ∧ Pr.length ≤ 1000 ∧ SqT K H t (natsV T) ∧ 2 ≤ T.length ∧ FlowOk Pr S T ∧ ∀ H', Same H H' → Q (.bl true) H'
abbrev N_is_flow : List Str := ["program", "thing", "row", "other"]
theorem sc_is_flow : FnScope N_is_flow ["program", "thing"] (defScope s_is_flow) := ⟨rfl, rfl, rfl, by decide +kernel, rfl, by decide +kernel, by decide +kernel⟩
theorem ok_is_flow (T : TX K mg) : Ok P w K mg base 3 "is_flow" ["program", "thing"] (sp_is_flow K) := by
  refine T.d_is_flow.ok sc_is_flow (fun _ _ _ _ _ _ us hl => match us, hl with | [_, _], _ => rfl) (fun vs H Q E h => ?_) (fun f cdv A outer s H vs Q E hr h => ?_)
  · obtain ⟨_, _, _, _, _, rfl, _⟩ := h; rfl
  · obtain ⟨a, t, Pr, S, T', rfl, hP, hPl, ht, h2, F, k⟩ := h
    obtain ⟨rs0, hpr0, hrl⟩ := hP.len
    have hnl : (natsV T').length = T'.length := by unfold natsV; rw [List.length_map]
    refine ⟨_, (pss_cons (ps_if (pt_not (pt_val (pe_callB call_isi rfl T.n_isinstance (by decide +kernel) (pa_cons (pv 1) (pa_cons (pe_bltn (v := .ty "tuple") rfl T.n_tuple (by decide +kernel) rfl) pa_nil))))) (pss_one (ps_ret pe_bl)) pss_nil)
        (pss_cons (ps_for PassesOwn.never rfl (pi_tup (pv 1)) (pg_name (i := 2) sc_is_flow.nd rfl (Or.inl rfl)) (pss_one (ps_if (pt_not (pt_val (pcall (ok_is_between T) (hr.mono (by decide)) rfl (pa_cons (pv 2) (pa_cons pe_int (pa_cons (pe_op op_sub (pe_callB call_len_seq rfl T.n_len (by decide +kernel) (pa_cons (pv 0) pa_nil)) pe_int) pa_nil)))))) (pss_one (ps_ret pe_bl)) pss_nil)))
        (pss_cons (ps_for PassesOwn.never rfl (RZ.pi_zipA rfl T.n_zip (pa_cons (pe_slice sl_tupA (pv 1) po_none (po_some (pe_un un_neg pe_int))) (pa_cons (pe_slice sl_tupA (pv 1) (po_some pe_int) po_none) pa_nil))) (pg_tup rfl (pgs_cons (pg_name (i := 2) sc_is_flow.nd rfl (Or.inl rfl)) (pgs_cons (pg_name (i := 3) sc_is_flow.nd rfl (Or.inl rfl)) pgs_nil))) (pss_one (ps_if (PW.pt (pw_or (pt_cmpR op_eq (pe_ix ix_tup (pe_ix ix_tup (pv 0) (pv 2) (fun _ _ => rfl)) pe_int (fun _ _ => rfl)) pe_str (nomark _)) (pw_or1 (pt_cmpR op_notIn_seq (pv 3) (pcall (ok_next_rows T) (hr.mono (by decide)) rfl (pa_cons (pv 0) (pa_cons (pv 2) pa_nil))) rfl)))) (pss_one (ps_ret pe_bl)) pss_nil)))
        (pss_one (ps_ret pe_bl))))), ?_⟩
    refine ⟨_, rfl, .ref t, .ty "tuple", .type "tuple", .type "tuple", true, rfl, .ty _, ty_tup ht, kit_self, _, rfl, iteF ?_⟩
    refine ⟨_, rfl, t, rfl, ⟨_, ht⟩, for_it (walk_tup (K := K) (a := t) (xs := natsV T')) (fun j σ H1 => ∃ o, σ = [some (.ref a), some (.ref t), o, none] ∧ H1 = H) ⟨none, rfl, rfl⟩ (fun _ _ _ _ ⟨_, _, e⟩ => by rw [e]; exact ht) ?_ ?_⟩
    · rintro j x σ H1 H2 hj ⟨o, rfl, rfl⟩ ⟨rfl, hx⟩
      obtain ⟨n, hn, rfl⟩ := nats_of hx
      have hlt := F.rows n (List.mem_of_getElem? hn)
      refine ⟨_, rfl, _, rfl, a, _, rfl, .inr hpr0, _, _, rfl, rfl, _, _, _, rfl, ?_⟩
      rw [List.length_map, hrl, btw (show (0 : Int) ≤ ((n : Nat) : Int) by omega) (show ((n : Nat) : Int) ≤ ((Pr.length : Nat) : Int) - 1 by omega)]
      exact ⟨_, rfl, iteF ⟨_, rfl, rfl⟩⟩
    · rintro σ H1 ⟨o, rfl, rfl⟩
      refine ⟨_, rfl, noPart ⟨_, rfl, _, rfl, slA_of ht fun p1 H2 s2 hc2 => ⟨_, rfl, _, rfl, noPart (slA_of (same_sqT s2 ht) fun p2 H3 s3 hc3 => ?_)⟩⟩⟩
      have hc2 : SqT K H2 p1 (natsV T'.dropLast) := by
        have e := cutV_init (xs := natsV T') (by omega)
        rw [nats_init] at e
        rw [← e]
        exact hc2
      have hc3 : SqT K H3 p2 (natsV T'.tail) := by
        have e := cutV_rest (xs := natsV T') (by omega)
        rw [nats_rest] at e
        rw [← e]
        exact hc3
      have hc23 := same_sqT s3 hc2
      have ll : (natsV T'.dropLast).length = (natsV T'.tail).length := by unfold natsV; rw [List.length_map, List.length_map, List.length_dropLast, List.length_tail]
      refine ⟨p1, p2, natsV T'.dropLast, natsV T'.tail, rfl, .inr ⟨hc23, hc3, RZ.for_zipT (K := K) (a := p1) (b := p2) (xs := natsV T'.dropLast) (ys := natsV T'.tail) ll (fun j σ H4 => ∃ o1 o2, σ = [some (.ref a), some (.ref t), o1, o2] ∧ Same H3 H4) ⟨o, none, rfl, Same.refl H3⟩
        (fun _ _ _ ⟨_, _, _, sm⟩ => ⟨same_sqT sm hc23, same_sqT sm hc3⟩) ?_ ?_⟩⟩
      · rintro j x y TT σ H4 hx hy ⟨o1, o2, rfl, sm⟩ hT
        obtain ⟨i, hi, rfl⟩ := nats_of hx
        obtain ⟨q, hq, rfl⟩ := nats_of hy
        obtain ⟨⟨r, RO⟩, hw, hnx, _⟩ := F.step j i q (init_at hi) (rest_at hq)
        have s4 := sm.trans (same_new (o := .tup [.int (i : Nat), .int (q : Nat)]) hT)
        have s04 := (s2.trans s3).trans s4
        obtain ⟨rs, b, hpr, hb, hrow⟩ := (hP.same s04).at RO.at_
        refine ⟨TT, _, rfl, SqT.of upd_same, rfl, _, _, rfl, _, _, rfl, rfl, ?_⟩
        have hw2 : decide (V.str r.d = V.str "wait") = false := (wait_eq RO.at_).symm.trans hw
        refine ⟨_, rfl, _, rfl, a, _, _, _, rfl, rfl, hpr, nat_at hb, b, _, _, _, rfl, rfl, hrow, rfl, rfl, _, rfl, ?_⟩
        rw [hw2]
        refine iteF ⟨_, rfl, _, rfl, _, rfl, a, Pr, i, rfl, hP.same s04, hPl, ⟨r, RO.at_, fun hg => RO.mark ?_⟩, fun H5 p L s5 hp hL => ⟨p, _, rfl, .inl (SqL.of hp), rfl, ?_, _, rfl, ?_⟩⟩
        · rcases hg with hg | hg
          · rw [eqS_iff.mp hg]; decide +kernel
          · exact good_mark hg
        · exact List.all_eq_true.mpr fun v hv => by
            obtain ⟨x, _, rfl⟩ := List.mem_map.mp hv
            rfl
        · have hin : inV (.int (q : Nat)) (L.map V.int) = true := List.any_eq_true.mpr ⟨_, List.mem_map.mpr ⟨_, (hL q).mpr hnx, rfl⟩, by show ((q : Nat) : Int) == ((q : Nat) : Int); exact beq_self_eq_true _⟩
          rw [if_pos rfl, hin]
          exact iteF ⟨_, _, rfl, s4.trans s5⟩
      · rintro σ H4 ⟨o1, o2, rfl, sm⟩
        exact k H4 ((s2.trans s3).trans sm)
def sp_right_late (K : PySem.W.Frag) : Sp := fun vs H Q _ => ∃ a t Pr T, vs = [.ref a, .int 0, .ref t] ∧ PgAt K H a Pr ∧ Pr.length ≤ 1000 ∧ (Pr.map fun r => byteC r.d).sum ≤ 256 ∧ SignsOk Pr ∧ SqT K H t (natsV T) ∧ LateR Pr (signsOf Pr) T ∧ ∀ H', Same H H' → Q (.bl true) H'
abbrev N_right_late : List Str := ["program", "base", "thing", "signs", "beats", "row", "other"]
theorem sc_right_late : FnScope N_right_late ["program", "base", "thing"] (defScope s_right_late) := ⟨rfl, rfl, rfl, by decide +kernel, rfl, by decide +kernel, by decide +kernel⟩
theorem ok_right_late (T : TX K mg) : Ok P w K mg base 6 "right_late" ["program", "base", "thing"] (sp_right_late K) := by
  refine T.d_right_late.ok sc_right_late (fun _ _ _ _ _ _ us hl => match us, hl with | [_, _, _], _ => rfl) (fun vs H Q E h => ?_) (fun f cdv A outer s H vs Q E hr h => ?_)
  · obtain ⟨_, _, _, _, rfl, _⟩ := h; rfl
  · obtain ⟨a, t, Pr, T', rfl, hP, hPl, hsum, hso, ht, L, k⟩ := h
    have hnl : (natsV T').length = T'.length := by unfold natsV; rw [List.length_map]
    have h2 := L.two
    have h40 := L.forty
    refine ⟨_, (pss_cons (ps_set (i := 3) sc_right_late.nd rfl (Or.inr rfl) (pcall (ok_page_signs T) (hr.mono (by decide)) rfl (pa_cons (pv 0) (pa_cons (pv 1) pa_nil))))
        (pss_cons (ps_if (PW.pt (pw_or (pt_not (pt_val (pcall (ok_is_flow T) (hr.mono (by decide)) rfl (pa_cons (pv 0) (pa_cons (pv 2) pa_nil))))) (pw_or (pt_not (pt_chain op_le op_le pe_int (pe_callB call_len_seq rfl T.n_len (by decide +kernel) (pa_cons (pv 2) pa_nil)) (pgi T.i_MOST_WAY rfl))) (pw_or1 (pt_not (pt_val (pcall (ok_is_line_begin T) (hr.mono (by decide)) rfl (pa_cons (pv 0) (pa_cons (pe_ix ix_tup (pv 2) pe_int (fun _ _ => rfl)) pa_nil))))))))) (pss_one (ps_ret pe_bl)) pss_nil)
        (pss_cons (ps_setLc (i := 4) (own := [("row", 5), ("other", 6)]) (g := gTup K 2 (gCons (gName 5) (gCons (gName 6) gNil))) (tt := tYes) (te := tCl (sp_most_towards K) (tCons (tVar 0) (tCons (tVar 3) (tCons (tVar 5) (tCons (tVar 6) tNil))))) rfl sc_right_late.nd rfl rfl (sw_true rfl rfl rfl (by decide +kernel)) (RZ.pi_zipA rfl T.n_zip (pa_cons (pe_slice sl_tupA (pv 2) po_none (po_some (pe_un un_neg pe_int))) (pa_cons (pe_slice sl_tupA (pv 2) (po_some pe_int) po_none) pa_nil))) (blkOk_by (N := N_right_late) (sc := defScope s_right_late) (by decide +kernel)) (fun _ _ _ _ _ => (pg_tup rfl (pgs_cons (pg_name (i := 5) sc_right_late.nd rfl (Or.inl rfl)) (pgs_cons (pg_name (i := 6) sc_right_late.nd rfl (Or.inl rfl)) pgs_nil)))) (fun _ _ _ _ _ => pts_nil) (fun _ _ _ _ _ => (pcall (ok_most_towards T) (hr.mono (by decide)) rfl (pa_cons (pv 0) (pa_cons (pv 3) (pa_cons (pv 5) (pa_cons (pv 6) pa_nil)))))))
        (pss_one (ps_ret (pe_cmpR op_gt (pe_callB (cr_sum rfl) rfl T.n_sum (by decide +kernel) (pa_cons (pv 4) pa_nil)) (pgi T.i_MOST_BEAT rfl) (nomark _))))))), ?_⟩
    refine ⟨_, rfl, _, rfl, a, Pr, rfl, hP, hPl, hsum, hso, fun H1 sg s1 hSg => ?_⟩
    refine ⟨_, rfl, _, rfl, a, t, Pr, _, T', rfl, hP.same s1, hPl, same_sqT s1 ht, L.two, L.flow, fun H2 s2 => ⟨_, rfl, iteF ?_⟩⟩
    have s02 := s1.trans s2
    have ht2 := same_sqT s02 ht
    refine ⟨_, rfl, t, _, rfl, .inr ht2, _, _, rfl, rfl, _, rfl, ?_⟩
    rw [hnl, decide_eq_true (show (2 : Int) ≤ ((T'.length : Nat) : Int) by omega)]
    refine iteT ⟨_, _, rfl, rfl, _, rfl, ?_⟩
    rw [decide_eq_true (show ((T'.length : Nat) : Int) ≤ 40 by omega)]
    obtain ⟨i0, hi0, hb0⟩ := L.begin_
    refine iteF ⟨_, rfl, _, rfl, t, _, _, _, rfl, rfl, ht2, nat_at (i := 0) (nats_at hi0), a, i0, Pr, rfl, hP.same s02, hb0, _, rfl, iteF ?_⟩
    refine ⟨_, rfl, noPart ⟨_, rfl, _, rfl, slA_of ht2 fun p1 H3 s3 hc3 => ⟨_, rfl, _, rfl, noPart (slA_of (same_sqT s3 ht2) fun p2 H4 s4 hc4 => ?_)⟩⟩⟩
    have hc3 : SqT K H3 p1 (natsV T'.dropLast) := by
      have e := cutV_init (xs := natsV T') (by omega)
      rw [nats_init] at e
      rw [← e]
      exact hc3
    have hc4 : SqT K H4 p2 (natsV T'.tail) := by
      have e := cutV_rest (xs := natsV T') (by omega)
      rw [nats_rest] at e
      rw [← e]
      exact hc4
    have hc34 := same_sqT s4 hc3
    have l1 : (natsV T'.dropLast).length = T'.length - 1 := by unfold natsV; rw [List.length_map, List.length_dropLast]
    have l2 : (natsV T'.tail).length = T'.length - 1 := by unfold natsV; rw [List.length_map, List.length_tail]
    have s04 := (s02.trans s3).trans s4
    refine ⟨p1, p2, natsV T'.dropLast, natsV T'.tail, rfl, .inr ⟨hc34, hc4, fun D hD => lc_rel (walk_zipT (K := K) (a := p1) (b := p2) (xs := natsV T'.dropLast) (ys := natsV T'.tail) (n := T'.length - 1) (by omega)) (fun j y _ => ∃ m, y = .int m ∧ ∀ i o, T'[j]? = some i → T'[j + 1]? = some o → MostOk Pr (signsOf Pr) i o m) (fun _ _ _ _ h _ => h) (by omega) hD
      (fun H' e => ⟨same_sqT e hc34, same_sqT e hc4⟩) hY_pair ?_ ?_⟩⟩
    · rintro j v H5 H6 C1 C0 hj sm ⟨TT, x, y, rfl, hT, rfl, hx, hy⟩ hC
      obtain ⟨i, hi, rfl⟩ := nats_of hx
      obtain ⟨q, hq, rfl⟩ := nats_of hy
      have hi2 := init_at hi
      have hq2 := rest_at hq
      have s6 := sm.trans (same_new (o := .tup [.int (i : Nat), .int (q : Nat)]) hT)
      refine ⟨TT, _, rfl, SqT.of upd_same, rfl, _, _, rfl, _, _, rfl, rfl, ?_⟩
      refine ⟨rfl, yesT ⟨_, rfl, _, rfl, _, rfl, _, rfl, a, sg, i, q, Pr, _, rfl, hP.same (s04.trans s6), hPl, hSg.same (((s2.trans s3).trans s4).trans s6), L.flow.step j i q hi2 hq2, fun H7 m s7 hm => hC _ _ s7 ⟨m, rfl, fun i' o' h1 h2 => ?_⟩⟩⟩
      rw [hi2] at h1
      rw [hq2] at h2
      cases h1
      cases h2
      exact hm
    · intro H5 ys sm hD' hn hy
      obtain ⟨ms, hm1, hm2⟩ := list_choose ys (fun j y m => y = V.int m ∧ ∀ i o, T'[j]? = some i → T'[j + 1]? = some o → MostOk Pr (signsOf Pr) i o m) hy
      have hys : ys = ms.map V.int := by
        apply List.ext_getElem?
        intro j
        rw [List.getElem?_map]
        by_cases hj : j < ys.length
        · have e1 : ys[j]? = some ys[j] := List.getElem?_eq_getElem hj
          have e2 : ms[j]? = some ms[j] := List.getElem?_eq_getElem (by omega)
          rw [e1, e2, (hm2 j _ _ e1 e2).1]
          rfl
        · rw [List.getElem?_eq_none (by omega), List.getElem?_eq_none (by omega)]
          rfl
      subst hys
      refine ⟨_, rfl, D, ms, rfl, SqL.of hD', _, _, rfl, rfl, ?_⟩
      have e3 : decide ((30 : Int) < ms.sum) = true := decide_eq_true (L.sum ms (by omega) fun j i o m h1 h2 h3 => (hm2 j _ m (by rw [List.getElem?_map, h3]; rfl) h3).2 i o h1 h2)
      show Q (.bl (decide ((30 : Int) < ms.sum))) H5
      rw [e3]
      exact k H5 (s04.trans sm)
end

/-! ### the deck and what is drawn of it -/
def DkAt (H : Hp) (d : Addr) : Prop := ∃ L : List Int, L.length ≤ 1000 ∧ H d = some (.lst (L.map V.int))
structure Ch (d : Addr) (H H' : Hp) : Prop where
  dk : DkAt H' d
  f : ∀ b o, b ≠ d → H b = some o → H' b = some o
section
variable {d : Addr} {H H' H1 : Hp}
theorem Ch.refl (h : DkAt H d) : Ch d H H := ⟨h, fun _ _ _ e => e⟩
theorem Ch.trans (x : Ch d H H1) (y : Ch d H1 H') : Ch d H H' := ⟨y.dk, fun b o n e => y.f b o n (x.f b o n e)⟩
theorem Ch.same (h : DkAt H d) (e : Same H H') : Ch d H H' := ⟨let ⟨L, h0, h1⟩ := h; ⟨L, h0, e _ _ h1⟩, fun b o _ h => e b o h⟩
theorem Ch.t (x : Ch d H H') (h : DkAt H d) : SameT H H' := by
  obtain ⟨L, _, hd⟩ := h
  exact ⟨fun b xs e => x.f b _ (ne_of e hd (fun z => nomatch z)) e, fun b o u e => x.f b _ (ne_of e hd (fun z => nomatch z)) e⟩
theorem Ch.free {p : Addr} (x : Ch d H H') (h : H d ≠ none) (e : H' p = none) : p ≠ d ∧ H p = none := by
  obtain ⟨L, _, hd⟩ := x.dk
  have n : p ≠ d := fun z => by rw [z, hd] at e; cases e
  refine ⟨n, ?_⟩
  cases q : H p with
  | none => rfl
  | some o => rw [x.f p o n q] at e; cases e
end
def DEEDS : List Str := ["set", "test", "setx", "get", "put", "add", "sub", "mask", "flip", "getx", "putx", "lay", "take", "half", "twice", "up", "down", "tox", "toa", "rest", "idle", "wait", "go", "ifz", "ifn", "ifc", "ifd", "at", "door", "eye", "data"]
def BEATS : List Int := [2, 2, 2, 3, 3, 3, 3, 3, 3, 3, 3, 4, 4, 2, 2, 2, 2, 2, 2, 2, 3, 2, 3, 2, 2, 2, 2, 4, 3, 3, 0]
def ABC : Str := "abcdefghijklmnopqrstuvwxyz"
def nameOf (k : Nat) : Str := ⟨#[ABC.cps.toList.getD k 0]⟩
theorem cutV_to {ns : List Int} {k : Nat} : cutV (ns.map V.int) none (some (k : Nat)) = (ns.take (min k ns.length)).map V.int := by
  unfold cutV
  rw [HT.sIx_none, HT.sIx_nat, Nat.sub_zero, List.drop_zero, List.length_map, List.map_take]
theorem ixNn {n j : Nat} (hj : j < n) : ixN n (j : Int) = some j := by
  unfold ixN
  rw [if_pos (by omega), if_pos (by omega), Int.toNat_natCast]
theorem ints_ex : ∀ {ys : List V}, (∀ y ∈ ys, ∃ z, y = V.int z) → ∃ R : List Int, ys = R.map V.int
  | [], _ => ⟨[], rfl⟩
  | y :: ys, h => by
    obtain ⟨z, rfl⟩ := h y List.mem_cons_self
    obtain ⟨R, rfl⟩ := ints_ex fun y' hy => h y' (List.mem_cons_of_mem _ hy)
    exact ⟨z :: R, rfl⟩
section
variable {P : Program} {w : World} {K : PySem.W.Frag} {mg : Str → Option Value} {base : Heap}
def sp_law_mixed : Sp := fun vs H Q _ => ∃ c k, vs = [.int c, .int k] ∧ 0 ≤ k ∧ k ≤ 1000 ∧ ∀ i, Q (.int i) H
abbrev N_law_mixed : List Str := ["_law_cell", "_law_k", "_law_number"]
theorem sc_law_mixed : FnScope N_law_mixed ["_law_cell", "_law_k"] (defScope s_law_mixed) := ⟨rfl, rfl, rfl, by decide +kernel, rfl, by decide +kernel, by decide +kernel⟩
theorem ok_law_mixed (T : TX K mg) : Ok P w K mg base 1 "_law_mixed" ["_law_cell", "_law_k"] sp_law_mixed := by
  refine T.d_law_mixed.ok sc_law_mixed (fun _ _ _ _ _ _ us hl => match us, hl with | [_, _], _ => rfl) (fun vs H Q E h => ?_) (fun f cdv A outer s H vs Q E hr h => ?_)
  · obtain ⟨_, _, rfl, _⟩ := h; rfl
  · obtain ⟨c, k, rfl, k0, k1, q⟩ := h
    refine ⟨_, (pss_cons (ps_set (i := 2) sc_law_mixed.nd rfl (Or.inl rfl) (pe_op op_mod (pe_op op_add (pe_op op_add (pv 0) (pe_op op_mul (pe_op op_mul (pv 1) (pv 1)) pe_int)) pe_int) pe_int))
        (pss_cons (ps_set (i := 2) sc_law_mixed.nd rfl (Or.inl rfl) (pe_op op_mod (pe_op op_mul (pv 2) (pv 2)) pe_int))
        (pss_cons (ps_set (i := 2) sc_law_mixed.nd rfl (Or.inl rfl) (pe_op op_mod (pe_op op_mul (pe_op op_add (pe_op op_add (pv 2) (pe_op op_mul (pv 1) pe_int)) pe_int) pe_int) pe_int))
        (pss_one (ps_ret (pe_op op_fdiv (pe_op op_mod (pe_op op_mul (pv 2) (pv 2)) pe_int) pe_int)))))), ?_⟩
    have hkk : 0 ≤ k * k ∧ k * k ≤ 1000000 := ⟨Int.mul_nonneg k0 k0, by
      have := Int.mul_le_mul k1 k1 k0 (by decide : (0 : Int) ≤ 1000)
      omega⟩
    have md : ∀ x : Int, 0 ≤ x % 2305843009213693951 ∧ x % 2305843009213693951 < 2305843009213693951 := fun x => ⟨Int.emod_nonneg _ (by decide), Int.emod_lt_of_pos _ (by decide)⟩
    have m1 := md (c + k * k * 40503 + 12345)
    have m2 := md ((c + k * k * 40503 + 12345) % 2305843009213693951 * ((c + k * k * 40503 + 12345) % 2305843009213693951))
    have m3 := md (((c + k * k * 40503 + 12345) % 2305843009213693951 * ((c + k * k * 40503 + 12345) % 2305843009213693951) % 2305843009213693951 + k * 7919 + 1) * 48271)
    refine ⟨_, rfl, _, rfl, _, rfl, _, _, rfl, rfl, .inl ⟨by omega, by omega⟩, _, _, rfl, rfl, .inr ⟨by decide, by decide⟩, _, _, rfl, rfl, _, _, rfl, rfl, _, _, rfl, rfl, (by show (0 : Int) < 2305843009213693951; decide), ?_⟩
    refine ⟨_, rfl, _, rfl, _, _, rfl, rfl, .inl ⟨by omega, by omega⟩, _, _, rfl, rfl, (by show (0 : Int) < 2305843009213693951; decide), ?_⟩
    refine ⟨_, rfl, _, rfl, _, _, rfl, rfl, .inr ⟨by decide, by decide⟩, _, _, rfl, rfl, _, _, rfl, rfl, _, _, rfl, rfl, .inr ⟨by decide, by decide⟩, _, _, rfl, rfl, (by show (0 : Int) < 2305843009213693951; decide), ?_⟩
    exact ⟨_, rfl, _, rfl, _, _, rfl, rfl, .inl ⟨by omega, by omega⟩, _, _, rfl, rfl, (by show (0 : Int) < 2305843009213693951; decide), _, _, rfl, rfl, ⟨by decide, by decide⟩, q _⟩
def sp_law_deck (K : PySem.W.Frag) : Sp := fun vs H Q _ => ∃ (a : Addr) (ns : List Int), vs = [.ref a, .int 200] ∧ SqL K H a (ns.map V.int) ∧ ns.length ≤ 1000 ∧ ∀ H' p, Same H H' → DkAt H' p → Q (.ref p) H'
abbrev N_law_deck : List Str := ["_law_script", "_law_many", "_law_own", "_law_rest", "_law_deck_here", "_law_k", "_law_at", "_law_cell"]
theorem sc_law_deck : FnScope N_law_deck ["_law_script", "_law_many"] (defScope s_law_deck) := ⟨rfl, rfl, rfl, by decide +kernel, rfl, by decide +kernel, by decide +kernel⟩
theorem ok_law_deck (T : TX K mg) : Ok P w K mg base 2 "_law_deck" ["_law_script", "_law_many"] (sp_law_deck K) := by
  refine T.d_law_deck.ok sc_law_deck (fun _ _ _ _ _ _ us hl => match us, hl with | [_, _], _ => rfl) (fun vs H Q E h => ?_) (fun f cdv A outer s H vs Q E hr h => ?_)
  · obtain ⟨_, _, rfl, _⟩ := h; rfl
  · obtain ⟨a, ns, rfl, ha, hns, k⟩ := h
    refine ⟨_, (pss_cons (ps_set (i := 2) sc_law_deck.nd rfl (Or.inl rfl) (pe_op op_cat (pe_callTy call_list_of rfl T.n_list (by decide +kernel) (pa_cons (pe_slice sl_list (pv 0) po_none (po_some pe_int)) pa_nil)) (pe_op op_mul_li (pe_lst (pa_cons pe_int pa_nil)) (pe_callTy call_int1 rfl T.n_int (by decide +kernel) (pa_cons (pe_cmpR op_eq (pe_callB call_len_seq rfl T.n_len (by decide +kernel) (pa_cons (pv 0) pa_nil)) pe_int (nomark _)) pa_nil)))))
        (pss_cons (ps_setLc (i := 3) (own := [("_law_cell", 7)]) (g := gName 7) (tt := tYes) rfl sc_law_deck.nd rfl rfl (sw_true rfl rfl rfl (by decide +kernel)) (pi_list (pv 2)) (blkOk_by (N := N_law_deck) (sc := defScope s_law_deck) (by decide +kernel)) (fun _ _ _ _ _ => (pg_name (i := 7) sc_law_deck.nd rfl (Or.inl rfl))) (fun _ _ _ _ _ => pts_nil) (fun _ _ _ _ _ => (pe_op op_mul (pv 7) (pe_callTy call_int1 rfl T.n_int (by decide +kernel) (pa_cons (pe_cmpR op_ge (pv 7) (pe_op op_pow pe_int pe_int) (nomark _)) pa_nil)))))
        (pss_cons (ps_set (i := 4) sc_law_deck.nd rfl (Or.inl rfl) (pe_lst pa_nil))
        (pss_cons (ps_for PassesOwn.never rfl (pi_range1 rfl T.n_range (pa_cons (pv 1) pa_nil)) (pg_name (i := 5) sc_law_deck.nd rfl (Or.inl rfl)) (pss_cons (ps_set (i := 6) sc_law_deck.nd rfl (Or.inl rfl) (pe_op op_mod (pv 5) (pe_callB call_len_seq rfl T.n_len (by decide +kernel) (pa_cons (pv 2) pa_nil))))
          (pss_one (ps_if (pt_cmpR op_gt (pe_ix ix_list (pv 3) (pv 6) (fun _ _ => rfl)) pe_int (nomark _)) (pss_cons (ps_expr (pe_bm PySem.F.plainAttrs_list PySem.F.slot_list_append PySem.F.type_list_append mt_append (pv 4) (pa_cons (pe_op op_mod (pe_ix ix_list (pv 3) (pv 6) (fun _ _ => rfl)) pe_int) pa_nil)))
            (pss_one (ps_asg (pe_op op_fdiv (pe_ix ix_list (pv 3) (pv 6) (fun _ _ => rfl)) pe_int) (pg_sub (pv 3) (pv 6) set_list)))) (pss_one (ps_expr (pe_bm PySem.F.plainAttrs_list PySem.F.slot_list_append PySem.F.type_list_append mt_append (pv 4) (pa_cons (pe_op op_mod (pcall (ok_law_mixed T) (hr.mono (by decide)) rfl (pa_cons (pe_ix ix_list (pv 2) (pv 6) (fun _ _ => rfl)) (pa_cons (pe_op op_add (pv 5) pe_int) pa_nil))) pe_int) pa_nil))))))))
        (pss_one (ps_ret (pe_lstRev rfl rfl T.n_list rfl T.n_reversed (pv 4)))))))), ?_⟩
    refine ⟨_, rfl, noPart ⟨_, rfl, a, _, rfl, ha, fun p1 hp1 => ⟨p1, _, rfl, .inl (SqL.of upd_same), fun p2 hp2 => ⟨(by show 1 ≤ sizeLine; decide), fun p3 hp3 => ?_⟩⟩⟩⟩
    have s1 := same_new (o := .lst (cutV (ns.map V.int) none (some 60))) hp1
    have s2 := same_new (o := .lst (cutV (ns.map V.int) none (some 60))) hp2
    have s3 := same_new (o := .lst [.int 0]) hp3
    have s13 := (s1.trans s2).trans s3
    refine ⟨_, rfl, a, _, rfl, .inl (s13.seq ha), rfl, .inr ⟨_, rfl, p3, _, _, rfl, rfl, SqL.of upd_same, ?_, fun p4 hp4 => ?_⟩⟩
    · cases decide (V.int (((ns.map V.int).length : Nat) : Int) = V.int 0) with
      | true => exact .inr rfl
      | false => exact .inl rfl
    have s4 := same_new (o := .lst (if (if decide (V.int (((ns.map V.int).length : Nat) : Int) = V.int 0) = true then (1 : Int) else 0) = 1 then [V.int 0] else [])) hp4
    obtain ⟨O, hO, hO1, hO2⟩ : ∃ O : List Int, cutV (ns.map V.int) none (some 60) ++ (if (if decide (V.int (((ns.map V.int).length : Nat) : Int) = V.int 0) = true then (1 : Int) else 0) = 1 then [V.int 0] else []) = O.map V.int ∧ 0 < O.length ∧ O.length ≤ 61 := by
      have e := cutV_to (ns := ns) (k := 60)
      rw [show (some ((60 : Nat) : Int)) = some (60 : Int) from rfl] at e
      rw [e, dec_i, List.length_map]
      cases ns with
      | nil => exact ⟨[0], rfl, by decide, by decide⟩
      | cons n ns =>
        refine ⟨(n :: ns).take (min 60 (n :: ns).length), ?_, ?_, ?_⟩
        · rw [decide_eq_false (by rw [List.length_cons]; omega)]
          simp
        · rw [List.length_take, List.length_cons]; omega
        · rw [List.length_take]; omega
    refine ⟨p2, p4, _, _, rfl, rfl, s4 _ _ (s3 _ _ upd_same), upd_same, ?_, fun op hop => ?_⟩
    · rw [← List.length_append, hO, List.length_map, sizeLine_eq]; omega
    rw [hO] at *
    have s5 := same_new (o := .lst (O.map V.int)) hop
    have s05 := (s13.trans s4).trans s5
    generalize hH5 : upd _ op (.lst (O.map V.int)) = H5 at s5 s05 ⊢
    have op5 : H5 op = some (.lst (O.map V.int)) := by rw [← hH5]; exact upd_same
    refine ⟨_, rfl, op, rfl, ⟨_, SqL.of op5⟩, fun rp hrp => lc_rel (walk_list (K := K) (a := op) (xs := O.map V.int)) (fun _ y _ => ∃ z, y = V.int z) (fun _ _ _ _ h _ => h) (by rw [List.length_map]; omega) hrp (fun H' e => SqL.of (e _ _ op5)) hY_at ?_ ?_⟩
    · rintro j x H6 H7 C C0 hj sm ⟨rfl, hx⟩ hC
      rw [List.getElem?_map] at hx
      obtain ⟨c, _, rfl⟩ := Option.map_eq_some_iff.mp hx
      refine ⟨rfl, yesT ⟨_, rfl, _, rfl, _, _, rfl, rfl, ⟨by decide, by decide, by decide⟩, _, _, rfl, rfl, .inr ⟨_, rfl, _, _, rfl, rfl, .inr ?_, hC _ _ (Same.refl _) ⟨_, rfl⟩⟩⟩⟩
      split
      · exact ⟨by decide, by decide⟩
      · exact ⟨by decide, by decide⟩
    · intro H6 ys sm hrp6 hn hy
      obtain ⟨R, rfl⟩ := ints_ex (ys := ys) fun y hy2 => by
        obtain ⟨i, hi⟩ := List.getElem?_of_mem hy2
        exact hy i y hi
      rw [List.length_map, List.length_map] at hn
      have op6 := sm _ _ op5
      have s06 := s05.trans sm
      have nor : op ≠ rp := ne_of_none op5 hrp
      refine ⟨Nat.zero_le _, fun dp hdp => ?_⟩
      have nod : op ≠ dp := ne_of_none op6 hdp
      have nrd : rp ≠ dp := ne_of_none hrp6 hdp
      have s7 := same_new (o := .lst []) hdp
      refine ⟨_, rfl, 200, rfl, by decide, by decide, for_it (walk_range (lo := 0) (n := 200)) (fun j σ H1 => ∃ o5 o6 R D, σ = [some (.ref a), some (.int 200), some (.ref op), some (.ref rp), some (.ref dp), o5, o6, none] ∧ H1 op = some (.lst (O.map V.int)) ∧ H1 rp = some (.lst (R.map V.int)) ∧ R.length = O.length ∧ H1 dp = some (.lst (D.map V.int)) ∧ D.length = j ∧ Same H H1)
        ⟨none, none, R, [], rfl, s7 _ _ op6, s7 _ _ hrp6, hn, upd_same, rfl, s06.trans s7⟩ (fun _ _ _ _ _ => True.intro) ?_ ?_⟩
      · rintro j x σ H1 H2 hj ⟨o5, o6, R, D, rfl, hop, hrp1, hR, hdp1, hD, sm1⟩ ⟨rfl, rfl⟩
        have hat : (0 + (j : Int)) % (((O.map V.int).length : Nat) : Int) = ((j % O.length : Nat) : Int) := by rw [Int.zero_add, List.length_map]; rfl
        have hm : j % O.length < O.length := Nat.mod_lt _ hO1
        have hfr : H rp = none := s05.free hrp
        have hfd : H dp = none := s06.free hdp
        have rat : (R.map V.int)[j % O.length]? = some (.int (R.getD (j % O.length) 0)) := getD_at (by omega)
        have oat : (O.map V.int)[j % O.length]? = some (.int (O.getD (j % O.length) 0)) := getD_at hm
        refine ⟨_, rfl, _, rfl, op, _, rfl, .inl (SqL.of hop), _, _, rfl, rfl, (by show (0 : Int) < (((O.map V.int).length : Nat) : Int); rw [List.length_map]; omega), ?_⟩
        dsimp only
        rw [hat]
        refine ⟨_, rfl, _, rfl, rp, _, _, _, rfl, rfl, SqL.of hrp1, nat_at rat, _, _, rfl, rfl, _, rfl, ite_b (fun e => ?_) fun e => ?_⟩
        · refine ⟨_, rfl, .inl ⟨rfl, _, SqL.of hdp1⟩, _, rfl, _, rfl, rp, _, _, _, rfl, rfl, SqL.of hrp1, nat_at rat, _, _, rfl, rfl, (by show (0 : Int) < 1000; decide), dp, _, _, rfl, rfl, hdp1, small1000 (by rw [List.length_map]; omega), ?_⟩
          refine ⟨_, rfl, _, rfl, rp, _, _, _, rfl, rfl, SqL.of (by rw [upd_ne nrd]; exact hrp1), nat_at rat, _, _, rfl, rfl, ⟨by decide, by decide⟩, _, rfl, _, rfl, rp, _, _, j % O.length, rfl, rfl, by rw [upd_ne nrd]; exact hrp1, ixNn (by rw [List.length_map]; omega), ?_⟩
          refine ⟨_, _, R.set (j % O.length) (R.getD (j % O.length) 0 / 1000), D ++ [R.getD (j % O.length) 0 % 1000], rfl, ?_, ?_, by rw [List.length_set]; exact hR, ?_, by rw [List.length_append, hD]; rfl, same_upd hfr (same_upd hfd sm1)⟩
          · rw [upd_ne nor, upd_ne nod]; exact hop
          · rw [List.map_set]; exact upd_same
          · rw [upd_ne nrd.symm, List.map_append]; exact upd_same
        · refine ⟨_, rfl, .inl ⟨rfl, _, SqL.of hdp1⟩, _, rfl, _, rfl, op, _, _, _, rfl, rfl, SqL.of hop, nat_at oat, _, rfl, _, _, rfl, rfl, _, _, rfl, by omega, by omega, fun i => ⟨_, _, rfl, rfl, (by show (0 : Int) < 1000; decide), dp, _, _, rfl, rfl, hdp1, small1000 (by rw [List.length_map]; omega), ?_⟩⟩
          refine ⟨_, _, R, D ++ [i % 1000], rfl, ?_, ?_, hR, ?_, by rw [List.length_append, hD]; rfl, same_upd hfd sm1⟩
          · rw [upd_ne nod]; exact hop
          · rw [upd_ne nrd]; exact hrp1
          · rw [List.map_append]; exact upd_same
      · rintro σ H1 ⟨o5, o6, R, D, rfl, hop, hrp1, hR, hdp1, hD, sm1⟩
        exact ⟨_, rfl, dp, _, rfl, SqL.of hdp1, fun q hq => k _ q (sm1.trans (same_new hq)) ⟨D.reverse, by rw [List.length_reverse]; omega, by rw [List.map_reverse]; exact upd_same⟩⟩
end

theorem at_mod {α : Type} {xs : List α} (h : 0 < xs.length) (i : Int) : ∃ z ∈ xs, atI xs (i % (xs.length : Nat)) = some z := by
  have h1 : 0 ≤ i % (xs.length : Nat) := Int.emod_nonneg _ (by omega)
  have h2 : i % (xs.length : Nat) < (xs.length : Nat) := Int.emod_lt_of_pos _ (by omega)
  obtain ⟨m, hm⟩ : ∃ m : Nat, i % (xs.length : Nat) = m := ⟨(i % (xs.length : Nat)).toNat, by omega⟩
  rw [hm]
  have hml : m < xs.length := by omega
  exact ⟨xs[m], List.getElem_mem hml, nat_at (List.getElem?_eq_getElem hml)⟩
def ValOk (at_ : Nat) (v : V) (ms ts : List Str) : Prop := (at_ = 27 → ∃ z ∈ ts, v = .str z) ∧ (22 ≤ at_ → at_ < 27 → ∃ z ∈ ms, v = .str z) ∧ (at_ = 2 → ∃ x, v = .int x ∧ 0 ≤ x ∧ x ≤ 255)
section
variable {P : Program} {w : World} {K : PySem.W.Frag} {mg : Str → Option Value} {base : Heap}
def sp_law_next : Sp := fun vs H Q _ => ∃ d, vs = [.ref d] ∧ DkAt H d ∧ ∀ H' i, Ch d H H' → Q (.int i) H'
abbrev N_law_next : List Str := ["_law_deck_here"]
theorem sc_law_next : FnScope N_law_next ["_law_deck_here"] (defScope s_law_next) := ⟨rfl, rfl, rfl, by decide +kernel, rfl, by decide +kernel, by decide +kernel⟩
theorem ok_law_next (T : TX K mg) : Ok P w K mg base 1 "_law_next" ["_law_deck_here"] sp_law_next := by
  refine T.d_law_next.ok sc_law_next (fun _ _ _ _ _ _ us hl => match us, hl with | [_], _ => rfl) (fun vs H Q E h => ?_) (fun f cdv A outer s H vs Q E hr h => ?_)
  · obtain ⟨_, rfl, _⟩ := h; rfl
  · obtain ⟨d, rfl, ⟨L, hL, hd⟩, k⟩ := h
    refine ⟨_, (pss_cons (ps_if (pt_cmpR op_gt (pe_callB call_len_seq rfl T.n_len (by decide +kernel) (pa_cons (pv 0) pa_nil)) pe_int (nomark _)) (pss_one (ps_ret (pe_bm0 PySem.F.plainAttrs_list PySem.F.slot_list_pop PySem.F.type_list_pop mt_pop (pv 0)))) pss_nil)
        (pss_one (ps_ret pe_int))), ?_⟩
    refine ⟨_, rfl, d, _, rfl, .inl (SqL.of hd), _, _, rfl, rfl, _, rfl, ite_b (fun e => ?_) fun e => ?_⟩
    · have hpos : 0 < L.length := by
        have := of_decide_eq_true e
        rw [List.length_map] at this
        omega
      obtain ⟨x, hx⟩ := last_some hpos
      refine ⟨_, rfl, .inl ⟨rfl, _, SqL.of hd⟩, d, _, .int x, rfl, rfl, hd, by rw [List.length_map, List.getElem?_map, hx]; rfl, ?_⟩
      exact k _ x ⟨⟨L.dropLast, by rw [List.length_dropLast]; omega, by rw [List.map_dropLast]; exact upd_same⟩, fun b o n h => by rw [upd_ne n]; exact h⟩
    · exact k _ 0 (Ch.refl ⟨L, hL, hd⟩)
def sp_law_deeds : Sp := fun vs H Q _ => vs = [] ∧ ∀ H' p, Same H H' → H' p = some (.lst (DEEDS.map V.str)) → Q (.ref p) H'
abbrev N_law_deeds : List Str := ["_law_first"]
theorem sc_law_deeds : FnScope N_law_deeds [] (defScope s_law_deeds) := ⟨rfl, rfl, rfl, by decide +kernel, rfl, by decide +kernel, by decide +kernel⟩
theorem ok_law_deeds (T : TX K mg) : Ok P w K mg base 1 "_law_deeds" [] sp_law_deeds := by
  refine T.d_law_deeds.ok sc_law_deeds (fun _ _ _ _ _ _ us hl => match us, hl with | [], _ => rfl) (fun vs H Q E h => ?_) (fun f cdv A outer s H vs Q E hr h => ?_)
  · obtain ⟨rfl, _⟩ := h; rfl
  · obtain ⟨rfl, k⟩ := h
    refine ⟨_, (pss_cons (ps_set (i := 0) sc_law_deeds.nd rfl (Or.inl rfl) (pe_lst (pa_cons pe_str (pa_cons pe_str (pa_cons pe_str (pa_cons pe_str (pa_cons pe_str (pa_cons pe_str (pa_cons pe_str (pa_cons pe_str (pa_cons pe_str (pa_cons pe_str (pa_cons pe_str (pa_cons pe_str (pa_cons pe_str pa_nil)))))))))))))))
        (pss_cons (ps_set (i := 0) sc_law_deeds.nd rfl (Or.inl rfl) (pe_op op_cat (pv 0) (pe_lst (pa_cons pe_str (pa_cons pe_str (pa_cons pe_str (pa_cons pe_str (pa_cons pe_str (pa_cons pe_str (pa_cons pe_str (pa_cons pe_str (pa_cons pe_str pa_nil))))))))))))
        (pss_one (ps_ret (pe_op op_cat (pv 0) (pe_lst (pa_cons pe_str (pa_cons pe_str (pa_cons pe_str (pa_cons pe_str (pa_cons pe_str (pa_cons pe_str (pa_cons pe_str (pa_cons pe_str (pa_cons pe_str pa_nil))))))))))))))), ?_⟩
    refine ⟨(by show 13 ≤ sizeLine; decide), fun p1 hp1 => ⟨_, rfl, (by show 9 ≤ sizeLine; decide), fun p2 hp2 => ⟨p1, p2, _, _, rfl, rfl, same_new hp2 _ _ upd_same, upd_same, (by show 22 ≤ sizeLine; decide), fun p3 hp3 => ?_⟩⟩⟩
    refine ⟨_, rfl, (by show 9 ≤ sizeLine; decide), fun p4 hp4 => ⟨p3, p4, _, _, rfl, rfl, same_new hp4 _ _ upd_same, upd_same, (by show 31 ≤ sizeLine; decide), fun p5 hp5 => ?_⟩⟩
    exact k _ p5 ((((same_new hp1).trans (same_new hp2)).trans (same_new hp3)).trans ((same_new hp4).trans (same_new hp5))) upd_same
def sp_law_most : Sp := fun vs H Q _ => ∃ n : Nat, vs = [.int (n : Nat)] ∧ (n < 13 ∨ n = 28 ∨ n = 29) ∧ ∀ H' m, Same H H' → 0 ≤ m → m ≤ 255 → Q (.int m) H'
abbrev N_law_most : List Str := ["_law_at"]
theorem sc_law_most : FnScope N_law_most ["_law_at"] (defScope s_law_most) := ⟨rfl, rfl, rfl, by decide +kernel, rfl, by decide +kernel, by decide +kernel⟩
theorem ok_law_most (T : TX K mg) : Ok P w K mg base 1 "_law_most" ["_law_at"] sp_law_most := by
  refine T.d_law_most.ok sc_law_most (fun _ _ _ _ _ _ us hl => match us, hl with | [_], _ => rfl) (fun vs H Q E h => ?_) (fun f cdv A outer s H vs Q E hr h => ?_)
  · obtain ⟨_, rfl, _⟩ := h; rfl
  · obtain ⟨n, rfl, hn, k⟩ := h
    refine ⟨_, (pss_cons (ps_if (PW.pt (pw_or (pt_cmpR op_lt (pv 0) pe_int (nomark _)) (pw_or1 (pt_cmpR op_eq (pv 0) pe_int (nomark _))))) (pss_one (ps_ret pe_int)) pss_nil)
        (pss_cons (ps_if (pt_cmpR op_lt (pv 0) pe_int (nomark _)) (pss_one (ps_ret pe_int)) pss_nil)
        (pss_one (ps_ret (pe_ix ix_list (pe_lst (pa_cons pe_int (pa_cons pe_int pa_nil))) (pe_op op_sub (pv 0) pe_int) (fun _ _ => rfl)))))), ?_⟩
    have two : ∀ m : Int, atI [V.int 19, V.int 5] ((n : Int) - 28) = some (.int m) → 0 ≤ m → m ≤ 255 → ∀ p, H p = none → ∃ pp xs i v, V.ref p = V.ref pp ∧ V.int ((n : Int) - 28) = .int i ∧ SqL K (upd H p (.lst [.int 19, .int 5])) pp xs ∧ atI xs i = some v ∧ Q v (upd H p (.lst [.int 19, .int 5])) := fun m h1 h2 h3 p hp =>
      ⟨p, _, _, _, rfl, rfl, SqL.of upd_same, h1, k _ m (same_new hp) h2 h3⟩
    refine ⟨_, rfl, _, _, rfl, rfl, _, rfl, ite_b (fun e => ?_) fun e => ?_⟩
    · exact k H 255 (Same.refl H) (by decide) (by decide)
    · have h3 : ¬ (n : Int) < 3 := of_decide_eq_false e
      refine ⟨_, rfl, rfl, _, rfl, ?_⟩
      rw [dec_i, decide_eq_false (show ¬ (n : Int) = 30 by omega)]
      refine iteF ⟨_, rfl, _, _, rfl, rfl, _, rfl, ite_b (fun e2 => ?_) fun e2 => ?_⟩
      · exact k H 15 (Same.refl H) (by decide) (by decide)
      · have h4 : ¬ (n : Int) < 13 := of_decide_eq_false e2
        refine ⟨(by show 2 ≤ sizeLine; decide), fun p hp => ⟨_, rfl, _, _, rfl, rfl, ?_⟩⟩
        rcases hn with h | rfl | rfl
        · omega
        · exact two 19 rfl (by decide) (by decide) p hp
        · exact two 5 rfl (by decide) (by decide) p hp
def sp_law_name : Sp := fun vs H Q _ => ∃ n : Nat, vs = [.int (n : Nat)] ∧ n < 26 ∧ Q (.str (nameOf n)) H
abbrev N_law_name : List Str := ["_law_k"]
theorem sc_law_name : FnScope N_law_name ["_law_k"] (defScope s_law_name) := ⟨rfl, rfl, rfl, by decide +kernel, rfl, by decide +kernel, by decide +kernel⟩
theorem ok_law_name (T : TX K mg) : Ok P w K mg base 1 "_law_name" ["_law_k"] sp_law_name := by
  refine T.d_law_name.ok sc_law_name (fun _ _ _ _ _ _ us hl => match us, hl with | [_], _ => rfl) (fun vs H Q E h => ?_) (fun f cdv A outer s H vs Q E hr h => ?_)
  · obtain ⟨_, rfl, _⟩ := h; rfl
  · obtain ⟨n, rfl, hn, k⟩ := h
    refine ⟨_, (pss_one (ps_ret (pe_op op_mul_str1 (pe_ix ix_str pe_str (pe_op op_mod (pv 0) pe_int) (fun _ _ => rfl)) (pe_op op_add pe_int (pe_op op_mod (pe_op op_fdiv (pv 0) pe_int) pe_int))))), ?_⟩
    have e1 : (n : Int) % 26 = (n : Nat) := by omega
    have e2 : (1 : Int) + (n : Int) / 26 % 8 = 1 := by omega
    have hl : ABC.cps.toList.length = 26 := by decide +kernel
    refine ⟨_, rfl, _, _, rfl, rfl, (by show (0 : Int) < 26; decide), ABC, _, ABC.cps.toList.getD n 0, rfl, rfl, by decide +kernel, ?_, _, rfl, _, _, rfl, rfl, ⟨by decide, by decide⟩, _, _, rfl, rfl, (by show (0 : Int) < 8; decide), _, _, rfl, rfl, nameOf n, rfl, ?_, k⟩
    · rw [e1]
      refine nat_at ?_
      rw [List.getD_eq_getElem?_getD, List.getElem?_eq_getElem (show n < ABC.cps.toList.length by omega)]
      rfl
    · exact congrArg V.int e2
def sp_law_beats : Sp := fun vs H Q _ => ∃ n : Nat, vs = [.int (n : Nat)] ∧ n < 31 ∧ ∀ H', Same H H' → Q (.int (BEATS.getD n 0)) H'
abbrev N_law_beats : List Str := ["_law_at"]
theorem sc_law_beats : FnScope N_law_beats ["_law_at"] (defScope s_law_beats) := ⟨rfl, rfl, rfl, by decide +kernel, rfl, by decide +kernel, by decide +kernel⟩
theorem ok_law_beats (T : TX K mg) : Ok P w K mg base 1 "_law_beats" ["_law_at"] sp_law_beats := by
  refine T.d_law_beats.ok sc_law_beats (fun _ _ _ _ _ _ us hl => match us, hl with | [_], _ => rfl) (fun vs H Q E h => ?_) (fun f cdv A outer s H vs Q E hr h => ?_)
  · obtain ⟨_, rfl, _⟩ := h; rfl
  · obtain ⟨n, rfl, hn, k⟩ := h
    refine ⟨_, (pss_one (ps_ret (pe_ix ix_list (pe_lst (pa_cons pe_int (pa_cons pe_int (pa_cons pe_int (pa_cons pe_int (pa_cons pe_int (pa_cons pe_int (pa_cons pe_int (pa_cons pe_int (pa_cons pe_int (pa_cons pe_int (pa_cons pe_int (pa_cons pe_int (pa_cons pe_int (pa_cons pe_int (pa_cons pe_int (pa_cons pe_int (pa_cons pe_int (pa_cons pe_int (pa_cons pe_int (pa_cons pe_int (pa_cons pe_int (pa_cons pe_int (pa_cons pe_int (pa_cons pe_int (pa_cons pe_int (pa_cons pe_int (pa_cons pe_int (pa_cons pe_int (pa_cons pe_int (pa_cons pe_int (pa_cons pe_int pa_nil)))))))))))))))))))))))))))))))) (pv 0) (fun _ _ => rfl)))), ?_⟩
    have hb : (BEATS.map V.int)[n]? = some (.int (BEATS.getD n 0)) := getD_at (by show n < 31; exact hn)
    exact ⟨(by show 31 ≤ sizeLine; decide), fun p hp => ⟨_, rfl, p, BEATS.map V.int, _, _, rfl, rfl, SqL.of upd_same, nat_at hb, k _ (same_new hp)⟩⟩
def sp_law_value : Sp := fun vs H Q _ => ∃ (d : Addr) (n : Nat) (ml tl : Addr) (ms ts : List Str), vs = [.ref d, .int (n : Nat), .ref ml, .ref tl] ∧ DkAt H d ∧ ml ≠ d ∧ tl ≠ d ∧ H ml = some (.lst (ms.map V.str)) ∧ H tl = some (.lst (ts.map V.str)) ∧ 0 < ms.length ∧ (n = 27 → 0 < ts.length) ∧ n < 30 ∧
  ∀ H' v, Ch d H H' → ValOk n v ms ts → Q v H'
abbrev N_law_value : List Str := ["_law_deck_here", "_law_at", "_law_marks", "_law_tables", "_law_cell"]
theorem sc_law_value : FnScope N_law_value ["_law_deck_here", "_law_at", "_law_marks", "_law_tables"] (defScope s_law_value) := ⟨rfl, rfl, rfl, by decide +kernel, rfl, by decide +kernel, by decide +kernel⟩
theorem ok_law_value (T : TX K mg) : Ok P w K mg base 2 "_law_value" ["_law_deck_here", "_law_at", "_law_marks", "_law_tables"] sp_law_value := by
  refine T.d_law_value.ok sc_law_value (fun _ _ _ _ _ _ us hl => match us, hl with | [_, _, _, _], _ => rfl) (fun vs H Q E h => ?_) (fun f cdv A outer s H vs Q E hr h => ?_)
  · obtain ⟨_, _, _, _, _, _, rfl, _⟩ := h; rfl
  · obtain ⟨d, n, ml, tl, ms, ts, rfl, hd, nm, nt, hml, htl, hm0, ht0, hn, k⟩ := h
    refine ⟨_, (pss_cons (ps_set (i := 4) sc_law_value.nd rfl (Or.inl rfl) (pcall (ok_law_next T) (hr.mono (by decide)) rfl (pa_cons (pv 0) pa_nil)))
        (pss_cons (ps_if (pt_chain op_le op_lt pe_int (pv 1) pe_int) (pss_one (ps_ret pe_non)) pss_nil)
        (pss_cons (ps_if (pt_cmpR op_eq (pv 1) pe_int (nomark _)) (pss_one (ps_ret (pe_ix ix_list (pv 3) (pe_op op_mod (pv 4) (pe_callB call_len_seq rfl T.n_len (by decide +kernel) (pa_cons (pv 3) pa_nil))) (fun _ _ => rfl)))) pss_nil)
        (pss_cons (ps_if (pt_chain op_le op_lt pe_int (pv 1) pe_int) (pss_one (ps_ret (pe_ix ix_list (pv 2) (pe_op op_mod (pv 4) (pe_callB call_len_seq rfl T.n_len (by decide +kernel) (pa_cons (pv 2) pa_nil))) (fun _ _ => rfl)))) pss_nil)
        (pss_one (ps_ret (pe_op op_mod (pv 4) (pe_op op_add (pcall (ok_law_most T) (hr.mono (by decide)) rfl (pa_cons (pv 1) pa_nil)) pe_int)))))))), ?_⟩
    refine ⟨_, rfl, d, rfl, hd, fun H1 i c1 => ?_⟩
    have hml1 := c1.f _ _ nm hml
    have htl1 := c1.f _ _ nt htl
    obtain ⟨zt, hzt⟩ : ∃ z, 0 < ts.length → (∃ y ∈ ts, z = V.str y) ∧ atI (ts.map V.str) (i % (((ts.map V.str).length : Nat) : Int)) = some z := by
      by_cases h : 0 < ts.length
      · obtain ⟨z, hz1, hz2⟩ := at_mod (xs := ts.map V.str) (by rw [List.length_map]; exact h) i
        obtain ⟨y, hy, rfl⟩ := List.mem_map.mp hz1
        exact ⟨_, fun _ => ⟨⟨y, hy, rfl⟩, hz2⟩⟩
      · exact ⟨.non, fun h2 => absurd h2 h⟩
    obtain ⟨z, hz1, hz2⟩ := at_mod (xs := ms.map V.str) (by rw [List.length_map]; exact hm0) i
    obtain ⟨y, hy, rfl⟩ := List.mem_map.mp hz1
    have hcase : (13 ≤ n ∧ n < 22) ∨ n = 27 ∨ (22 ≤ n ∧ n < 27) ∨ n < 13 ∨ 27 < n := by omega
    refine ⟨_, rfl, _, _, rfl, rfl, _, rfl, ?_⟩
    rcases hcase with h | h | h | h | h
    · rw [decide_eq_true (show (13 : Int) ≤ (n : Int) by omega)]
      refine iteT ⟨_, _, rfl, rfl, _, rfl, ?_⟩
      rw [decide_eq_true (show (n : Int) < 22 by omega)]
      exact iteT (k H1 .non c1 ⟨fun _ => by omega, fun _ _ => by omega, fun _ => by omega⟩)
    · subst h
      have h0 := ht0 rfl
      obtain ⟨g1, g2⟩ := hzt h0
      refine iteT ⟨_, _, rfl, rfl, _, rfl, iteF ⟨_, rfl, rfl, _, rfl, iteT ?_⟩⟩
      exact ⟨_, rfl, _, rfl, _, rfl, tl, _, rfl, .inl (SqL.of htl1), _, _, rfl, rfl, (by show (0 : Int) < (((ts.map V.str).length : Nat) : Int); rw [List.length_map]; omega), tl, _, _, zt, rfl, rfl, SqL.of htl1, g2, k H1 zt c1 ⟨fun _ => g1, fun _ _ => by omega, fun _ => by omega⟩⟩
    · rw [decide_eq_true (show (13 : Int) ≤ (n : Int) by omega)]
      refine iteT ⟨_, _, rfl, rfl, _, rfl, ?_⟩
      rw [decide_eq_false (show ¬ (n : Int) < 22 by omega)]
      refine iteF ⟨_, rfl, rfl, _, rfl, ?_⟩
      rw [dec_i, decide_eq_false (show ¬ (n : Int) = 27 by omega)]
      refine iteF ⟨_, rfl, _, _, rfl, rfl, _, rfl, ?_⟩
      rw [decide_eq_true (show (22 : Int) ≤ (n : Int) by omega)]
      refine iteT ⟨_, _, rfl, rfl, _, rfl, ?_⟩
      rw [decide_eq_true (show (n : Int) < 27 by omega)]
      exact iteT ⟨_, rfl, _, rfl, _, rfl, ml, _, rfl, .inl (SqL.of hml1), _, _, rfl, rfl, (by show (0 : Int) < (((ms.map V.str).length : Nat) : Int); rw [List.length_map]; omega), ml, _, _, _, rfl, rfl, SqL.of hml1, hz2, k H1 _ c1 ⟨fun _ => by omega, fun _ _ => ⟨y, hy, rfl⟩, fun _ => by omega⟩⟩
    · rw [decide_eq_false (show ¬ (13 : Int) ≤ (n : Int) by omega)]
      refine iteF ⟨_, rfl, iteF ⟨_, rfl, rfl, _, rfl, ?_⟩⟩
      rw [dec_i, decide_eq_false (show ¬ (n : Int) = 27 by omega)]
      refine iteF ⟨_, rfl, _, _, rfl, rfl, _, rfl, ?_⟩
      rw [decide_eq_false (show ¬ (22 : Int) ≤ (n : Int) by omega)]
      refine iteF ⟨_, rfl, iteF ⟨_, rfl, _, rfl, n, rfl, .inl h, fun H2 m s2 m0 m1 => ⟨_, _, rfl, rfl, _, _, rfl, rfl, (by show (0 : Int) < m + 1; omega), ?_⟩⟩⟩
      have q1 : 0 ≤ i % (m + 1) := Int.emod_nonneg _ (by omega)
      have q2 : i % (m + 1) < m + 1 := Int.emod_lt_of_pos _ (by omega)
      exact k H2 _ (c1.trans (Ch.same c1.dk s2)) ⟨fun _ => by omega, fun _ _ => by omega, fun _ => ⟨_, rfl, q1, by omega⟩⟩
    · rw [decide_eq_true (show (13 : Int) ≤ (n : Int) by omega)]
      refine iteT ⟨_, _, rfl, rfl, _, rfl, ?_⟩
      rw [decide_eq_false (show ¬ (n : Int) < 22 by omega)]
      refine iteF ⟨_, rfl, rfl, _, rfl, ?_⟩
      rw [dec_i, decide_eq_false (show ¬ (n : Int) = 27 by omega)]
      refine iteF ⟨_, rfl, _, _, rfl, rfl, _, rfl, ?_⟩
      rw [decide_eq_true (show (22 : Int) ≤ (n : Int) by omega)]
      refine iteT ⟨_, _, rfl, rfl, _, rfl, ?_⟩
      rw [decide_eq_false (show ¬ (n : Int) < 27 by omega)]
      refine iteF ⟨_, rfl, _, rfl, n, rfl, .inr (by omega), fun H2 m s2 m0 m1 => ⟨_, _, rfl, rfl, _, _, rfl, rfl, (by show (0 : Int) < m + 1; omega), ?_⟩⟩
      exact k H2 _ (c1.trans (Ch.same c1.dk s2)) ⟨fun _ => by omega, fun _ _ => by omega, fun _ => by omega⟩
end

structure FW (P : Pg) (n : Nat) : Prop where
  n2 : 2 ≤ n
  n12 : n ≤ 12
  le : n ≤ P.length
  l14 : P.length ≤ 14
  row : ∀ (i : Nat) (r : Rw), i < n → P[i]? = some r → ∃ a, a < 30 ∧ r.d = DEEDS.getD a "" ∧ (a = 27 → ∃ z, r.v = .str z ∧ ixOf P z < P.length) ∧ (22 ≤ a → a < 27 → ∃ z, r.v = .str z ∧ ixOf P z < n) ∧ (a = 2 → ∃ x, r.v = .int x ∧ 0 ≤ x ∧ x ≤ 255) ∧ (i + 1 = n → a = 22)
  data : ∀ (i : Nat) (r : Rw), n ≤ i → P[i]? = some r → r.d = "data"
/-- a row as it is drawn -/
def RowI (M M2 : List Nat) (n : Nat) (i : Nat) (r : Rw) : Prop := (i < n → (i ∈ M → r.m = nameOf i) ∧ ∃ a, a < 30 ∧ r.d = DEEDS.getD a "" ∧ ValOk a r.v (M.map nameOf) (M2.map nameOf) ∧ (i + 1 = n → a = 22)) ∧ (n ≤ i → (i ∈ M2 → r.m = nameOf i) ∧ r.d = "data")
theorem ix_le {P : Pg} {m : Nat} {r : Rw} {z : Str} (h : P[m]? = some r) (e : r.m = z) : ixOf P z ≤ m := by
  refine Nat.le_of_not_lt fun hlt => ?_
  have := ix_first (P := P) (z := z) (m := m) (z' := .str z) hlt (by rw [List.getElem?_map, h]; exact congrArg (fun q => some (V.str q)) e)
  have h2 : (z == z) = false := this
  rw [beq_self_eq_true] at h2
  cases h2
theorem fw_of {P : Pg} {M M2 : List Nat} {n sm : Nat} (n2 : 2 ≤ n) (n12 : n ≤ 12) (s2 : sm ≤ 2) (hl : P.length = n + sm) (hM : ∀ m ∈ M, m < n) (hM2 : ∀ m ∈ M2, n ≤ m ∧ m < n + sm) (h : ∀ (i : Nat) (r : Rw), P[i]? = some r → RowI M M2 n i r) : FW P n := by
  have at_ : ∀ m, m < P.length → ∃ r, P[m]? = some r := fun m hm => ⟨P[m], List.getElem?_eq_getElem hm⟩
  refine ⟨n2, n12, by omega, by omega, fun i r hi hr => ?_, fun i r hi hr => ((h i r hr).2 hi).2⟩
  obtain ⟨_, a, ha, hd, ⟨v1, v2, v3⟩, hg⟩ := (h i r hr).1 hi
  refine ⟨a, ha, hd, fun e => ?_, fun e1 e2 => ?_, v3, hg⟩
  · obtain ⟨z, hz, hv⟩ := v1 e
    obtain ⟨m, hm, rfl⟩ := List.mem_map.mp hz
    obtain ⟨h1, h2⟩ := hM2 m hm
    obtain ⟨r', hr'⟩ := at_ m (by omega)
    have := ix_le hr' (((h m r' hr').2 h1).1 hm)
    exact ⟨_, hv, by omega⟩
  · obtain ⟨z, hz, hv⟩ := v2 e1 e2
    obtain ⟨m, hm, rfl⟩ := List.mem_map.mp hz
    have h1 := hM m hm
    obtain ⟨r', hr'⟩ := at_ m (by omega)
    have := ix_le hr' (((h m r' hr').1 h1).1 hm)
    exact ⟨_, hv, by omega⟩
theorem inV_nats {k : Nat} {M : List Nat} : inV (.int (k : Nat)) (natsV M) = decide (k ∈ M) := by
  by_cases h : k ∈ M
  · rw [decide_eq_true h]
    exact List.any_eq_true.mpr ⟨_, List.mem_map.mpr ⟨k, h, rfl⟩, by show ((k : Nat) : Int) == ((k : Nat) : Int); exact beq_self_eq_true _⟩
  · rw [decide_eq_false h]
    refine List.any_eq_false.mpr fun v hv e => ?_
    obtain ⟨m, hm, rfl⟩ := List.mem_map.mp hv
    have e2 : ((m : Nat) : Int) = ((k : Nat) : Int) := eq_of_beq (show (((m : Nat) : Int) == ((k : Nat) : Int)) = true from e)
    have : m = k := by omega
    exact h (this ▸ hm)
theorem nats_flat (M : List Nat) : (natsV M).all flatV = true := List.all_eq_true.mpr fun v hv => by
  obtain ⟨m, _, rfl⟩ := List.mem_map.mp hv
  rfl
structure Ch2 (d rl : Addr) (H H' : Hp) : Prop where
  dk : DkAt H' d
  f : ∀ b o, b ≠ d → b ≠ rl → H b = some o → H' b = some o
section
variable {P : Program} {w : World} {K : PySem.W.Frag} {mg : Str → Option Value} {base : Heap}
def sp_law_free (K : PySem.W.Frag) : Sp := fun vs H Q _ => ∃ (d : Addr) (n sm : Nat), vs = [.ref d, .int (n : Nat), .int (sm : Nat)] ∧ DkAt H d ∧ 2 ≤ n ∧ n ≤ 12 ∧ sm ≤ 2 ∧ ∀ H' p Pr, Ch d H H' → PgAt K H' p Pr → FW Pr n → Q (.ref p) H'
abbrev N_law_free : List Str := ["_law_deck_here", "_law_many", "_law_some", "_law_marked", "_law_borne", "_law_marks", "_law_tables", "_law_rows", "_law_k", "_law_at", "_law_value_here"]
theorem sc_law_free : FnScope N_law_free ["_law_deck_here", "_law_many", "_law_some"] (defScope s_law_free) := ⟨rfl, rfl, rfl, by decide +kernel, rfl, by decide +kernel, by decide +kernel⟩
theorem ok_law_free (T : TX K mg) : Ok P w K mg base 3 "_law_free" ["_law_deck_here", "_law_many", "_law_some"] (sp_law_free K) := by
  refine T.d_law_free.ok sc_law_free (fun _ _ _ _ _ _ us hl => match us, hl with | [_, _, _], _ => rfl) (fun vs H Q E h => ?_) (fun f cdv A outer s H vs Q E hr h => ?_)
  · obtain ⟨_, _, _, rfl, _⟩ := h; rfl
  · obtain ⟨d, n, sm, rfl, hd, n2, n12, sm2, k⟩ := h
    refine ⟨_, (pss_cons (ps_setLc (i := 3) (own := [("_law_k", 8)]) (g := gName 8) rfl sc_law_free.nd rfl rfl (sw_true rfl rfl rfl (by decide +kernel)) (pi_range1 rfl T.n_range (pa_cons (pv 1) pa_nil)) (blkOk_by (N := N_law_free) (sc := defScope s_law_free) (by decide +kernel)) (fun _ _ _ _ _ => (pg_name (i := 8) sc_law_free.nd rfl (Or.inl rfl))) (fun _ _ _ _ _ => pts_one (PW.pt (pw_or (pt_cmpR op_eq (pv 8) pe_int (nomark _)) (pw_or1 (pt_cmpR op_eq (pe_op op_mod (pcall (ok_law_next T) (hr.mono (by decide)) rfl (pa_cons (pv 0) pa_nil)) pe_int) pe_int (nomark _)))))) (fun _ _ _ _ _ => (pv 8)))
        (pss_cons (ps_setLc (i := 4) (own := [("_law_k", 8)]) (g := gName 8) rfl sc_law_free.nd rfl rfl (sw_true rfl rfl rfl (by decide +kernel)) (pi_range1 rfl T.n_range (pa_cons (pv 2) pa_nil)) (blkOk_by (N := N_law_free) (sc := defScope s_law_free) (by decide +kernel)) (fun _ _ _ _ _ => (pg_name (i := 8) sc_law_free.nd rfl (Or.inl rfl))) (fun _ _ _ _ _ => pts_one (PW.pt (pw_or (pt_cmpR op_eq (pv 8) pe_int (nomark _)) (pw_or1 (pt_cmpR op_eq (pe_op op_mod (pcall (ok_law_next T) (hr.mono (by decide)) rfl (pa_cons (pv 0) pa_nil)) pe_int) pe_int (nomark _)))))) (fun _ _ _ _ _ => (pe_op op_add (pv 1) (pv 8))))
        (pss_cons (ps_setLc (i := 5) (own := [("_law_k", 8)]) (g := gName 8) (tt := tYes) rfl sc_law_free.nd rfl rfl (sw_true rfl rfl rfl (by decide +kernel)) (pi_list (pv 3)) (blkOk_by (N := N_law_free) (sc := defScope s_law_free) (by decide +kernel)) (fun _ _ _ _ _ => (pg_name (i := 8) sc_law_free.nd rfl (Or.inl rfl))) (fun _ _ _ _ _ => pts_nil) (fun _ _ _ _ _ => (pcall (ok_law_name T) (hr.mono (by decide)) rfl (pa_cons (pv 8) pa_nil))))
        (pss_cons (ps_setLc (i := 6) (own := [("_law_k", 8)]) (g := gName 8) (tt := tYes) rfl sc_law_free.nd rfl rfl (sw_true rfl rfl rfl (by decide +kernel)) (pi_list (pv 4)) (blkOk_by (N := N_law_free) (sc := defScope s_law_free) (by decide +kernel)) (fun _ _ _ _ _ => (pg_name (i := 8) sc_law_free.nd rfl (Or.inl rfl))) (fun _ _ _ _ _ => pts_nil) (fun _ _ _ _ _ => (pcall (ok_law_name T) (hr.mono (by decide)) rfl (pa_cons (pv 8) pa_nil))))
        (pss_cons (ps_set (i := 7) sc_law_free.nd rfl (Or.inl rfl) (pe_lst pa_nil))
        (pss_cons (ps_for PassesOwn.never rfl (pi_range1 rfl T.n_range (pa_cons (pv 1) pa_nil)) (pg_name (i := 8) sc_law_free.nd rfl (Or.inl rfl)) (pss_cons (ps_set (i := 9) sc_law_free.nd rfl (Or.inl rfl) (pe_op op_mod (pcall (ok_law_next T) (hr.mono (by decide)) rfl (pa_cons (pv 0) pa_nil)) pe_int))
          (C8.pss_cut (ps_if (pt_cmpR op_eq (pv 8) (pe_op op_sub (pv 1) pe_int) (nomark _)) (pss_one (ps_set (i := 9) sc_law_free.nd rfl (Or.inl rfl) pe_int)) pss_nil)
          (C8.pss_cut (ps_if (PW.pt (pw_and (pt_cmpR op_eq (pv 9) pe_int (nomark _)) (pw_and1 (pt_cmpR op_eq (pv 2) pe_int (nomark _))))) (pss_one (ps_set (i := 9) sc_law_free.nd rfl (Or.inl rfl) pe_int)) pss_nil)
          (pss_cons (ps_set (i := 10) sc_law_free.nd rfl (Or.inl rfl) (pcall (ok_law_value T) (hr.mono (by decide)) rfl (pa_cons (pv 0) (pa_cons (pv 9) (pa_cons (pv 5) (pa_cons (pv 6) pa_nil))))))
          (pss_one (ps_expr (pe_bm PySem.F.plainAttrs_list PySem.F.slot_list_append PySem.F.type_list_append mt_append (pv 7) (pa_cons (pe_tup (pa_cons (pe_ix ix_list (pe_lst (pa_cons pe_str (pa_cons (pcall (ok_law_name T) (hr.mono (by decide)) rfl (pa_cons (pv 8) pa_nil)) pa_nil))) (pe_callTy call_int1 rfl T.n_int (by decide +kernel) (pa_cons (pe_cmpR op_in_seq (pv 8) (pv 3) rfl) pa_nil)) (fun _ _ => rfl)) (pa_cons (pe_ix ix_list (pcall0 (ok_law_deeds T) (hr.mono (by decide)) rfl) (pv 9) (fun _ _ => rfl)) (pa_cons (pv 10) pa_nil)))) pa_nil)))))))))
        (pss_cons (ps_for PassesOwn.never rfl (pi_range1 rfl T.n_range (pa_cons (pv 2) pa_nil)) (pg_name (i := 8) sc_law_free.nd rfl (Or.inl rfl)) (pss_one (ps_expr (pe_bm PySem.F.plainAttrs_list PySem.F.slot_list_append PySem.F.type_list_append mt_append (pv 7) (pa_cons (pe_tup (pa_cons (pe_ix ix_list (pe_lst (pa_cons pe_str (pa_cons (pcall (ok_law_name T) (hr.mono (by decide)) rfl (pa_cons (pe_op op_add (pv 1) (pv 8)) pa_nil)) pa_nil))) (pe_callTy call_int1 rfl T.n_int (by decide +kernel) (pa_cons (pe_cmpR op_in_seq (pe_op op_add (pv 1) (pv 8)) (pv 4) rfl) pa_nil)) (fun _ _ => rfl)) (pa_cons pe_str (pa_cons (pe_op op_mod (pcall (ok_law_next T) (hr.mono (by decide)) rfl (pa_cons (pv 0) pa_nil)) pe_int) pa_nil)))) pa_nil)))))
        (pss_one (ps_ret (pe_callTy call_tuple_of rfl T.n_tuple (by decide +kernel) (pa_cons (pv 7) pa_nil))))))))))), ?_⟩
    have dn : ∀ {p : Addr} {H' : Hp}, DkAt H' d → H' p = none → p ≠ d := fun ⟨_, _, h⟩ e z => by rw [z, h] at e; cases e
    refine ⟨_, rfl, n, rfl, by omega, by omega, fun D1 hD1 => lc_it (walk_range (lo := 0) (n := n)) (fun j H1 => Ch d H H1 ∧ ∃ M : List Nat, H1 D1 = some (.lst (natsV M)) ∧ M.length ≤ j ∧ (0 < j → 0 < M.length) ∧ ∀ m ∈ M, m < j)
      ⟨Ch.same hd (same_new hD1), [], upd_same, Nat.le_refl _, fun h => absurd h (Nat.lt_irrefl 0), fun m hm => absurd hm (by simp)⟩ (fun _ _ _ _ => True.intro) ?_ ?_⟩
    · rintro j x H1 H2 hj ⟨c1, M, hM, hMl, hMp, hMm⟩ ⟨rfl, rfl⟩
      have nd := dn hd hD1
      have add : ∀ H3, Ch d H H3 → H3 D1 = some (.lst (natsV M)) → Ch d H (upd H3 D1 (.lst (natsV M ++ [.int (0 + (j : Int))]))) ∧ ∃ M' : List Nat, (upd H3 D1 (.lst (natsV M ++ [.int (0 + (j : Int))]))) D1 = some (.lst (natsV M')) ∧ M'.length ≤ j + 1 ∧ (0 < j + 1 → 0 < M'.length) ∧ ∀ m ∈ M', m < j + 1 := fun H3 c3 h3 => by
        refine ⟨⟨?_, fun b o n1 e => by rw [upd_ne (ne_of_none e hD1)]; exact c3.f b o n1 e⟩, M ++ [j], ?_, by rw [List.length_append]; exact Nat.succ_le_succ hMl, fun _ => by rw [List.length_append]; exact Nat.succ_pos _, fun m hm => ?_⟩
        · obtain ⟨L, l0, l1⟩ := c3.dk
          exact ⟨L, l0, by rw [upd_ne nd.symm]; exact l1⟩
        · rw [Int.zero_add]
          unfold natsV
          rw [List.map_append]
          exact upd_same
        · rcases List.mem_append.mp hm with h | h
          · exact Nat.lt_succ_of_lt (hMm m h)
          · rw [List.mem_singleton.mp h]; exact Nat.lt_succ_self j
      have sz : (natsV M).length < sizeLine := small1000 (by unfold natsV; rw [List.length_map]; omega)
      refine ⟨rfl, _, rfl, rfl, _, rfl, ite_b (fun e => iteT ⟨_, rfl, _, hM, sz, add _ c1 hM⟩) fun e => ?_⟩
      have hj0 : 0 < j := by
        rw [dec_i] at e
        have := of_decide_eq_false e
        omega
      refine ⟨_, rfl, d, rfl, c1.dk, fun H3 i c3 => ⟨_, _, rfl, rfl, (by show (0 : Int) < 3; decide), rfl, _, rfl, ite_b (fun e2 => ?_) fun e2 => ?_⟩⟩
      · exact ⟨_, rfl, _, c3.f _ _ nd hM, sz, add _ (c1.trans c3) (c3.f _ _ nd hM)⟩
      · exact ⟨c1.trans c3, M, c3.f _ _ nd hM, by omega, fun _ => hMp hj0, fun m hm => Nat.lt_succ_of_lt (hMm m hm)⟩
    rintro H1 ⟨c1, M, hM, hMl, hMp, hMm⟩
    have nd1 := dn hd hD1
    have hd1 := c1.dk
    refine ⟨_, rfl, sm, rfl, by omega, by omega, fun D2 hD2 => lc_it (walk_range (lo := 0) (n := sm)) (fun j H2 => Ch d H1 H2 ∧ ∃ M2 : List Nat, H2 D2 = some (.lst (natsV M2)) ∧ M2.length ≤ j ∧ (0 < j → 0 < M2.length) ∧ ∀ m ∈ M2, n ≤ m ∧ m < n + j)
      ⟨Ch.same hd1 (same_new hD2), [], upd_same, Nat.le_refl _, fun h => absurd h (Nat.lt_irrefl 0), fun m hm => absurd hm (by simp)⟩ (fun _ _ _ _ => True.intro) ?_ ?_⟩
    · rintro j x H2 H3 hj ⟨c2, M2, hM2, hMl2, hMp2, hMm2⟩ ⟨rfl, rfl⟩
      have nd := dn hd1 hD2
      have add : ∀ H4, Ch d H1 H4 → H4 D2 = some (.lst (natsV M2)) → Ch d H1 (upd H4 D2 (.lst (natsV M2 ++ [.int ((n : Int) + (0 + (j : Int)))]))) ∧ ∃ M' : List Nat, (upd H4 D2 (.lst (natsV M2 ++ [.int ((n : Int) + (0 + (j : Int)))]))) D2 = some (.lst (natsV M')) ∧ M'.length ≤ j + 1 ∧ (0 < j + 1 → 0 < M'.length) ∧ ∀ m ∈ M', n ≤ m ∧ m < n + (j + 1) := fun H4 c4 h4 => by
        refine ⟨⟨?_, fun b o n1 e => by rw [upd_ne (ne_of_none e hD2)]; exact c4.f b o n1 e⟩, M2 ++ [n + j], ?_, by rw [List.length_append]; exact Nat.succ_le_succ hMl2, fun _ => by rw [List.length_append]; exact Nat.succ_pos _, fun m hm => ?_⟩
        · obtain ⟨L, l0, l1⟩ := c4.dk
          exact ⟨L, l0, by rw [upd_ne nd.symm]; exact l1⟩
        · rw [Int.zero_add]
          unfold natsV
          rw [List.map_append]
          exact upd_same
        · rcases List.mem_append.mp hm with h | h
          · have := hMm2 m h
            omega
          · rw [List.mem_singleton.mp h]; omega
      have sz : (natsV M2).length < sizeLine := small1000 (by unfold natsV; rw [List.length_map]; omega)
      refine ⟨rfl, _, rfl, rfl, _, rfl, ite_b (fun e => iteT ⟨_, rfl, _, rfl, _, _, rfl, rfl, _, hM2, sz, add _ c2 hM2⟩) fun e => ?_⟩
      have hj0 : 0 < j := by
        rw [dec_i] at e
        have := of_decide_eq_false e
        omega
      refine ⟨_, rfl, d, rfl, c2.dk, fun H4 i c4 => ⟨_, _, rfl, rfl, (by show (0 : Int) < 3; decide), rfl, _, rfl, ite_b (fun e2 => ?_) fun e2 => ?_⟩⟩
      · exact ⟨_, rfl, _, rfl, _, _, rfl, rfl, _, c4.f _ _ nd hM2, sz, add _ (c2.trans c4) (c4.f _ _ nd hM2)⟩
      · exact ⟨c2.trans c4, M2, c4.f _ _ nd hM2, by omega, fun _ => hMp2 hj0, fun m hm => by have := hMm2 m hm; omega⟩
    rintro H2 ⟨c2, M2, hM2, hMl2, hMp2, hMm2⟩
    have nd2 := dn hd1 hD2
    have hd2 := c2.dk
    have hM' := c2.f _ _ nd1 hM
    have names : ∀ {N : List Nat} {ys : List V}, ys.length = (natsV N).length → (∀ (i : Nat) (y : V), ys[i]? = some y → ∀ m, N[i]? = some m → y = .str (nameOf m)) → ys = (N.map nameOf).map V.str := fun h1 h2 => by
      unfold natsV at h1
      rw [List.length_map] at h1
      rw [map_of_rel (f := fun m => V.str (nameOf m)) h1 h2, List.map_map]
      rfl
    refine ⟨_, rfl, D1, rfl, ⟨_, SqL.of hM'⟩, fun D3 hD3 => lc_rel (walk_list (K := K) (a := D1) (xs := natsV M)) (fun i y _ => ∀ m, M[i]? = some m → y = .str (nameOf m)) (fun _ _ _ _ h _ => h) (by unfold natsV; rw [List.length_map]; omega) hD3 (fun H' e => SqL.of (e _ _ hM')) hY_at ?_ ?_⟩
    · rintro i x H3 H4 C C0 hi s3 ⟨rfl, hx⟩ hC
      obtain ⟨m, hm, rfl⟩ := nats_of hx
      have := hMm m (List.mem_of_getElem? hm)
      exact ⟨rfl, yesT ⟨_, rfl, m, rfl, by omega, hC _ _ (Same.refl _) fun m' hm' => by rw [hm] at hm'; cases hm'; rfl⟩⟩
    intro H3 ys3 s3 hD3' hn3 hy3
    have hys3 := names hn3 hy3
    subst hys3
    have nd3 := dn hd2 hD3
    have hd3 := (Ch.same hd2 s3).dk
    have hM2' := s3 _ _ hM2
    refine ⟨_, rfl, D2, rfl, ⟨_, SqL.of hM2'⟩, fun D4 hD4 => lc_rel (walk_list (K := K) (a := D2) (xs := natsV M2)) (fun i y _ => ∀ m, M2[i]? = some m → y = .str (nameOf m)) (fun _ _ _ _ h _ => h) (by unfold natsV; rw [List.length_map]; omega) hD4 (fun H' e => SqL.of (e _ _ hM2')) hY_at ?_ ?_⟩
    · rintro i x H4 H5 C C0 hi s4 ⟨rfl, hx⟩ hC
      obtain ⟨m, hm, rfl⟩ := nats_of hx
      have := hMm2 m (List.mem_of_getElem? hm)
      exact ⟨rfl, yesT ⟨_, rfl, m, rfl, by omega, hC _ _ (Same.refl _) fun m' hm' => by rw [hm] at hm'; cases hm'; rfl⟩⟩
    intro H5 ys4 s4 hD4' hn4 hy4
    have hys4 := names hn4 hy4
    subst hys4
    have nd4 := dn hd3 hD4
    have hd5 := (Ch.same hd3 s4).dk
    have c05 : Ch d H H5 := (c1.trans c2).trans (Ch.same hd2 (s3.trans s4))
    have hM5 : H5 D1 = some (.lst (natsV M)) := s4 _ _ (s3 _ _ hM')
    have hM25 : H5 D2 = some (.lst (natsV M2)) := s4 _ _ hM2'
    have hD35 := s4 _ _ hD3'
    refine ⟨Nat.zero_le _, fun rl hrl => ?_⟩
    have ndr := dn hd5 hrl
    have hrlH : H rl = none := (c05.free (by obtain ⟨_, _, h⟩ := hd; rw [h]; exact fun z => nomatch z) hrl).2
    have n1r : D1 ≠ rl := ne_of_none hM5 hrl
    have n2r : D2 ≠ rl := ne_of_none hM25 hrl
    have n3r : D3 ≠ rl := ne_of_none hD35 hrl
    have n4r : D4 ≠ rl := ne_of_none hD4' hrl
    have mk : ∀ (x : Int) (m : Nat) (N : List Nat), x = (m : Nat) → atI [V.str "", V.str (nameOf m)] (if (if false = true then !inV (.int x) (natsV N) else inV (.int x) (natsV N)) = true then (1 : Int) else 0) = some (.str (if m ∈ N then nameOf m else "")) := fun x m N hx => by
      subst hx
      rw [if_neg Bool.false_ne_true, inV_nats]
      by_cases h : m ∈ N
      · rw [decide_eq_true h, if_pos h]; rfl
      · rw [decide_eq_false h, if_neg h]; rfl
    refine ⟨_, rfl, n, rfl, by omega, by omega, for_it (walk_range (lo := 0) (n := n)) (fun j σ H7 => ∃ o8 o9 o10 rs Pr, σ = [some (.ref d), some (.int (n : Nat)), some (.int (sm : Nat)), some (.ref D1), some (.ref D2), some (.ref D3), some (.ref D4), some (.ref rl), o8, o9, o10] ∧ Ch2 d rl H5 H7 ∧
        H7 rl = some (.lst (rs.map V.ref)) ∧ Paired (fun b r => SqT K H7 b (rowV r)) rs Pr ∧ Pr.length = j ∧ ∀ (i : Nat) (r : Rw), Pr[i]? = some r → RowI M M2 n i r)
      ⟨none, none, none, [], [], rfl, ⟨(Ch.same hd5 (same_new hrl)).dk, fun b o _ _ e => same_new hrl _ _ e⟩, upd_same, .nil, rfl, fun i r h => by simp at h⟩ (fun _ _ _ _ _ => True.intro) ?_ ?_⟩
    · rintro j x σ H7 H8 hj ⟨o8, o9, o10, rs, Pr, rfl, c7, hr7, hP7, hPl, hRow⟩ ⟨rfl, rfl⟩
      have hrsl : rs.length = Pr.length := Paired.length hP7
      refine ⟨_, rfl, d, rfl, c7.dk, fun H8 i c8 => ⟨_, _, rfl, rfl, (by show (0 : Int) < 30; decide), ?_⟩⟩
      obtain ⟨a0, ha0, hlt0⟩ : ∃ a0 : Nat, i % 30 = (a0 : Int) ∧ a0 < 30 := ⟨(i % 30).toNat, by have := Int.emod_nonneg i (show (30 : Int) ≠ 0 by decide); omega, by have := Int.emod_lt_of_pos i (show (0 : Int) < 30 by decide); omega⟩
      dsimp only
      rw [ha0, Int.zero_add]
      refine ⟨fun σ' H' => ∃ a1 : Nat, σ' = [some (.ref d), some (.int (n : Nat)), some (.int (sm : Nat)), some (.ref D1), some (.ref D2), some (.ref D3), some (.ref D4), some (.ref rl), some (.int (j : Nat)), some (.int (a1 : Nat)), o10] ∧ H' = H8 ∧ a1 < 30 ∧ (j + 1 = n → a1 = 22), ⟨_, rfl, _, rfl, _, _, rfl, rfl, rfl, _, rfl, ite_b (fun e => ?_) fun e => ?_⟩, ?_⟩
      · exact ⟨22, rfl, rfl, by decide, fun _ => rfl⟩
      · refine ⟨a0, rfl, rfl, hlt0, fun h => ?_⟩
        rw [dec_i] at e
        have := of_decide_eq_false e
        omega
      rintro σ' H8' ⟨a1, rfl, rfl, hlt1, hg1⟩
      refine ⟨fun σ' H' => ∃ a2 : Nat, σ' = [some (.ref d), some (.int (n : Nat)), some (.int (sm : Nat)), some (.ref D1), some (.ref D2), some (.ref D3), some (.ref D4), some (.ref rl), some (.int (j : Nat)), some (.int (a2 : Nat)), o10] ∧ H' = H8' ∧ a2 < 30 ∧ (j + 1 = n → a2 = 22) ∧ (a2 = 27 → 0 < sm), ?_, ?_⟩
      · refine ⟨_, rfl, rfl, _, rfl, ite_b (fun e => ?_) fun e => ?_⟩
        · refine ⟨_, rfl, rfl, _, rfl, ite_b (fun e2 => ?_) fun e2 => ?_⟩
          · have h27 : a1 = 27 := by
              rw [dec_i] at e
              have := of_decide_eq_true e
              omega
            exact ⟨19, rfl, rfl, by decide, fun h => by have := hg1 h; omega, fun h => nomatch h⟩
          · refine ⟨a1, rfl, rfl, hlt1, hg1, fun _ => ?_⟩
            rw [dec_i] at e2
            have := of_decide_eq_false e2
            omega
        · refine iteF ⟨a1, rfl, rfl, hlt1, hg1, fun h => ?_⟩
          rw [dec_i] at e
          have := of_decide_eq_false e
          omega
      rintro σ' H8'' ⟨a2, rfl, rfl, hlt2, hg2, h27⟩
      have f8 : ∀ {b : Addr} {o : HO}, b ≠ d → b ≠ rl → H5 b = some o → H8'' b = some o := fun n1 n2 e => c8.f _ _ n1 (c7.f _ _ n1 n2 e)
      refine ⟨_, rfl, _, rfl, _, rfl, _, rfl, d, a2, D3, D4, M.map nameOf, M2.map nameOf, rfl, c8.dk, nd3, nd4, f8 nd3 n3r hD35, f8 nd4 n4r hD4', by rw [List.length_map]; exact hMp (by omega), fun h => by rw [List.length_map]; exact hMp2 (h27 h), hlt2, fun H9 v c9 hv => ?_⟩
      have f9 : ∀ {b : Addr} {o : HO}, b ≠ d → b ≠ rl → H5 b = some o → H9 b = some o := fun n1 n2 e => c9.f _ _ n1 (f8 n1 n2 e)
      have hr9 : H9 rl = some (.lst (rs.map V.ref)) := c9.f _ _ ndr (c8.f _ _ ndr hr7)
      refine ⟨_, rfl, .inl ⟨rfl, _, SqL.of hr9⟩, _, rfl, j, rfl, by omega, (by show 2 ≤ sizeLine; decide), fun p hp => ?_⟩
      have s10 := same_new (o := .lst [.str "", .str (nameOf j)]) hp
      refine ⟨_, rfl, _, rfl, D1, _, rfl, .inl (SqL.of (s10 _ _ (f9 nd1 n1r hM5))), rfl, nats_flat M, .inr ⟨_, rfl, p, _, _, _, rfl, rfl, SqL.of upd_same, mk _ j M rfl, ?_⟩⟩
      refine ⟨rfl, fun H11 p2 s11 hp2 => ⟨_, rfl, p2, _, _, .str (DEEDS.getD a2 ""), rfl, rfl, SqL.of hp2, nat_at ?_, _, rfl, (by show 3 ≤ sizeLine; decide), fun t ht => ?_⟩⟩
      · have hl : a2 < DEEDS.length := by show a2 < 31; omega
        rw [List.getElem?_map, List.getElem?_eq_getElem hl, List.getD_eq_getElem?_getD, List.getElem?_eq_getElem hl]
        rfl
      have s9t := (s10.trans s11).trans (same_new (o := .tup [.str (if j ∈ M then nameOf j else ""), .str (DEEDS.getD a2 ""), v]) ht)
      have hrt := s9t _ _ hr9
      refine ⟨rl, _, _, rfl, rfl, hrt, small1000 (by rw [List.length_map]; omega), ?_⟩
      have c79 := (c8.trans c9).trans (Ch.same c9.dk s9t)
      have t7 := (c79.t c7.dk).trans (sameT_lst (ys := rs.map V.ref ++ [.ref t]) hrt)
      refine ⟨_, _, _, rs ++ [t], Pr ++ [⟨if j ∈ M then nameOf j else "", DEEDS.getD a2 "", v⟩], rfl, ⟨?_, fun b o n1 n2 e => ?_⟩, by rw [List.map_append]; exact upd_same, Paired.snoc (Paired.mapP hP7 fun _ _ z => sameT_sqT t7 z) ?_, by rw [List.length_append, hPl]; rfl, fun i r hi => ?_⟩
      · obtain ⟨L, l0, l1⟩ := c79.dk
        exact ⟨L, l0, by rw [upd_ne ndr.symm]; exact l1⟩
      · rw [upd_ne n2]
        exact c79.f _ _ n1 (c7.f _ _ n1 n2 e)
      · exact sameT_sqT (sameT_lst hrt) (SqT.of upd_same)
      · by_cases hij : i < Pr.length
        · rw [List.getElem?_append_left hij] at hi
          exact hRow i r hi
        · have hij2 : i = Pr.length := by
            have := (List.getElem?_eq_some_iff.mp hi).1
            rw [List.length_append, List.length_singleton] at this
            omega
          rw [hij2, List.getElem?_append_right (Nat.le_refl _), Nat.sub_self] at hi
          cases hi
          rw [hPl] at hij2
          subst hij2
          exact ⟨fun _ => ⟨fun h => if_pos h, a2, hlt2, rfl, hv, hg2⟩, fun h => absurd h (by omega)⟩
    · rintro σ H7 ⟨o8, o9, o10, rs, Pr, rfl, c7, hr7, hP7, hPl, hRow⟩
      refine ⟨_, rfl, sm, rfl, by omega, by omega, for_it (walk_range (lo := 0) (n := sm)) (fun j σ H7 => ∃ o8 rs Pr, σ = [some (.ref d), some (.int (n : Nat)), some (.int (sm : Nat)), some (.ref D1), some (.ref D2), some (.ref D3), some (.ref D4), some (.ref rl), o8, o9, o10] ∧ Ch2 d rl H5 H7 ∧
        H7 rl = some (.lst (rs.map V.ref)) ∧ Paired (fun b r => SqT K H7 b (rowV r)) rs Pr ∧ Pr.length = n + j ∧ ∀ (i : Nat) (r : Rw), Pr[i]? = some r → RowI M M2 n i r)
        ⟨o8, rs, Pr, rfl, c7, hr7, hP7, hPl, hRow⟩ (fun _ _ _ _ _ => True.intro) ?_ ?_⟩
      · clear hP7 hPl hRow hr7 c7
        rintro j x σ H7 H8 hj ⟨o8, rs, Pr, rfl, c7, hr7, hP7, hPl, hRow⟩ ⟨rfl, rfl⟩
        have hrsl : rs.length = Pr.length := Paired.length hP7
        have f7 : ∀ {b : Addr} {o : HO}, b ≠ d → b ≠ rl → H5 b = some o → H8 b = some o := fun n1 n2 e => c7.f _ _ n1 n2 e
        have nj : (n : Int) + (0 + (j : Int)) = ((n + j : Nat) : Int) := by omega
        refine ⟨_, rfl, .inl ⟨rfl, _, SqL.of hr7⟩, _, rfl, _, rfl, _, _, rfl, rfl, n + j, congrArg (fun q => [V.int q]) nj, by omega, (by show 2 ≤ sizeLine; decide), fun p hp => ?_⟩
        have s10 := same_new (o := .lst [.str "", .str (nameOf (n + j))]) hp
        refine ⟨_, rfl, _, rfl, _, _, rfl, rfl, _, rfl, D2, _, rfl, .inl (SqL.of (s10 _ _ (f7 nd2 n2r hM25))), rfl, nats_flat M2, .inr ⟨_, rfl, p, _, _, .str (if n + j ∈ M2 then nameOf (n + j) else ""), rfl, rfl, SqL.of upd_same, ?_, ?_⟩⟩
        · exact mk _ (n + j) M2 nj
        have d10 := (Ch.same c7.dk s10).dk
        refine ⟨_, rfl, d, rfl, d10, fun H11 i c11 => ⟨_, _, rfl, rfl, (by show (0 : Int) < 256; decide), (by show 3 ≤ sizeLine; decide), fun t ht => ?_⟩⟩
        have s12 := same_new (o := .tup [.str (if n + j ∈ M2 then nameOf (n + j) else ""), .str "data", .int (i % 256)]) ht
        have c79 := ((Ch.same c7.dk s10).trans c11).trans (Ch.same c11.dk s12)
        have hrt := c79.f _ _ ndr hr7
        refine ⟨rl, _, _, rfl, rfl, hrt, small1000 (by rw [List.length_map]; omega), ?_⟩
        have t7 := (c79.t c7.dk).trans (sameT_lst (ys := rs.map V.ref ++ [.ref t]) hrt)
        refine ⟨_, rs ++ [t], Pr ++ [⟨if n + j ∈ M2 then nameOf (n + j) else "", "data", .int (i % 256)⟩], rfl, ⟨?_, fun b o n1 n2 e => ?_⟩, by rw [List.map_append]; exact upd_same, Paired.snoc (Paired.mapP hP7 fun _ _ z => sameT_sqT t7 z) ?_, by rw [List.length_append, hPl]; rfl, fun i' r hi => ?_⟩
        · obtain ⟨L, l0, l1⟩ := c79.dk
          exact ⟨L, l0, by rw [upd_ne ndr.symm]; exact l1⟩
        · rw [upd_ne n2]
          exact c79.f _ _ n1 (c7.f _ _ n1 n2 e)
        · exact sameT_sqT (sameT_lst hrt) (SqT.of upd_same)
        · by_cases hij : i' < Pr.length
          · rw [List.getElem?_append_left hij] at hi
            exact hRow i' r hi
          · have hij2 : i' = Pr.length := by
              have := (List.getElem?_eq_some_iff.mp hi).1
              rw [List.length_append, List.length_singleton] at this
              omega
            rw [hij2, List.getElem?_append_right (Nat.le_refl _), Nat.sub_self] at hi
            cases hi
            rw [hPl] at hij2
            subst hij2
            exact ⟨fun h => absurd h (by omega), fun _ => ⟨fun h => if_pos h, rfl⟩⟩
      · clear hP7 hPl hRow hr7 c7
        rintro σ H7 ⟨o8, rs, Pr, rfl, c7, hr7, hP7, hPl, hRow⟩
        refine ⟨_, rfl, rl, _, rfl, .inl ⟨SqL.of hr7, fun t ht => ?_⟩⟩
        have st := same_new (o := .tup (rs.map V.ref)) ht
        refine k _ t Pr ⟨(Ch.same c7.dk st).dk, fun b o n1 e => st _ _ (c7.f _ _ n1 (ne_of_none e hrlH) (c05.f _ _ n1 e))⟩ ⟨rs, SqT.of upd_same, Paired.mapP hP7 fun _ _ z => same_sqT st z⟩ (fw_of n2 n12 sm2 hPl hMm hMm2 hRow)
end

def TAME : List Str := ["getx", "tox", "up", "down"]
def WAITS : List Str := ["rest", "idle", "half", "twice"]
def tameR (r : Rw) : Rw := if inS r.d TAME = true then ⟨r.m, "rest", .non⟩ else r
def waitR (r : Rw) : Rw := if inS r.d WAITS = true then ⟨r.m, "wait", r.v⟩ else r
def PD : Pg := DEEDS.map fun s => ⟨s, "", .non⟩
def lawB (d : Str) : Int := BEATS.getD (ixOf PD d) 0 + (if eqS d "at" = true then 1 else 0)
def lawNext (Pr : Pg) (i : Nat) (r : Rw) : List (Nat × Int) := if eqS r.d "go" = true then [(tgt Pr r, 3)] else if inS r.d IFS = true then [(i + 1, 2), (tgt Pr r, 3)] else [(i + 1, lawB r.d)]
def kL (p : Nat × Int) : List Int := [(p.1 : Nat), p.2]
def PrV (H : Hp) (v : V) (p : Nat × Int) : Prop := ∃ b, v = .ref b ∧ H b = some (.tup ((kL p).map V.int))
section
variable {P : Program} {w : World} {K : PySem.W.Frag} {mg : Str → Option Value} {base : Heap}
def sp_law_tamed (K : PySem.W.Frag) : Sp := fun vs H Q _ => ∃ a Pr, vs = [.ref a] ∧ PgAt K H a Pr ∧ Pr.length ≤ 1000 ∧ ∀ H' p, Same H H' → PgAt K H' p (Pr.map tameR) → Q (.ref p) H'
abbrev N_law_tamed : List Str := ["_law_program", "_law_rows", "_law_mark", "_law_deed", "_law_value_here"]
theorem sc_law_tamed : FnScope N_law_tamed ["_law_program"] (defScope s_law_tamed) := ⟨rfl, rfl, rfl, by decide +kernel, rfl, by decide +kernel, by decide +kernel⟩
theorem ok_law_tamed (T : TX K mg) : Ok P w K mg base 1 "_law_tamed" ["_law_program"] (sp_law_tamed K) := by
  refine T.d_law_tamed.ok sc_law_tamed (fun _ _ _ _ _ _ us hl => match us, hl with | [_], _ => rfl) (fun vs H Q E h => ?_) (fun f cdv A outer s H vs Q E hr h => ?_)
  · obtain ⟨_, _, rfl, _⟩ := h; rfl
  · obtain ⟨a, Pr, rfl, ⟨rs, hS, hrs⟩, hl, k⟩ := h
    have hlen := Paired.length hrs
    refine ⟨_, (pss_cons (ps_set (i := 1) sc_law_tamed.nd rfl (Or.inl rfl) (pe_lst pa_nil))
        (pss_cons (ps_for PassesOwn.never rfl (pi_tup (pv 0)) (pg_tup rfl (pgs_cons (pg_name (i := 2) sc_law_tamed.nd rfl (Or.inl rfl)) (pgs_cons (pg_name (i := 3) sc_law_tamed.nd rfl (Or.inl rfl)) (pgs_cons (pg_name (i := 4) sc_law_tamed.nd rfl (Or.inl rfl)) pgs_nil)))) (pss_one (ps_if (pt_cmpR op_in_seq (pv 3) (pe_tup (pa_cons pe_str (pa_cons pe_str (pa_cons pe_str (pa_cons pe_str pa_nil))))) rfl) (pss_one (ps_expr (pe_bm PySem.F.plainAttrs_list PySem.F.slot_list_append PySem.F.type_list_append mt_append (pv 1) (pa_cons (pe_tup (pa_cons (pv 2) (pa_cons pe_str (pa_cons pe_non pa_nil)))) pa_nil)))) (pss_one (ps_expr (pe_bm PySem.F.plainAttrs_list PySem.F.slot_list_append PySem.F.type_list_append mt_append (pv 1) (pa_cons (pe_tup (pa_cons (pv 2) (pa_cons (pv 3) (pa_cons (pv 4) pa_nil)))) pa_nil)))))))
        (pss_one (ps_ret (pe_callTy call_tuple_of rfl T.n_tuple (by decide +kernel) (pa_cons (pv 1) pa_nil)))))), ?_⟩
    refine ⟨Nat.zero_le _, fun rl hrl => ?_⟩
    have s0 := same_new (o := .lst []) hrl
    refine ⟨_, rfl, a, rfl, ⟨_, same_sqT s0 hS⟩, for_it (walk_tup (K := K) (a := a) (xs := rs.map V.ref)) (fun j σ H1 => ∃ o2 o3 o4 qs, σ = [some (.ref a), some (.ref rl), o2, o3, o4] ∧ Same H H1 ∧ H1 rl = some (.lst (qs.map V.ref)) ∧ Paired (fun b r => SqT K H1 b (rowV r)) qs ((Pr.take j).map tameR))
      ⟨none, none, none, [], rfl, s0, upd_same, .nil⟩ (fun _ _ _ _ ⟨_, _, _, _, _, e, _⟩ => same_sqT e hS) ?_ ?_⟩
    · rintro j x σ H1 H2 hj ⟨o2, o3, o4, qs, rfl, sm, hq, hP⟩ ⟨rfl, hx⟩
      rw [List.getElem?_map] at hx
      obtain ⟨b, hb, rfl⟩ := Option.map_eq_some_iff.mp hx
      obtain ⟨r, hr1, hr2⟩ := paired_atL hrs hb
      have hql := Paired.length hP
      rw [List.length_map, List.length_take] at hql
      refine ⟨b, rowV r, rfl, same_sqT sm hr2, rfl, _, _, rfl, _, _, rfl, _, _, rfl, rfl, ?_⟩
      refine ⟨_, rfl, (by show 4 ≤ sizeLine; decide), fun tp htp => ⟨tp, _, rfl, .inr (SqT.of upd_same), rfl, rfl, _, rfl, ite_b (fun e => ?_) fun e => ?_⟩⟩
      · have s1 := same_new (o := .tup [.str "getx", .str "tox", .str "up", .str "down"]) htp
        refine ⟨_, rfl, .inl ⟨rfl, _, SqL.of (s1 _ _ hq)⟩, _, rfl, (by show 3 ≤ sizeLine; decide), fun t ht => ?_⟩
        have s2 := s1.trans (same_new (o := .tup (rowV ⟨r.m, "rest", .non⟩)) ht)
        have t3 := (sameT_of s2).trans (sameT_lst (ys := qs.map V.ref ++ [.ref t]) (s2 _ _ hq))
        refine ⟨rl, _, _, rfl, rfl, s2 _ _ hq, small1000 (by rw [List.length_map]; omega), _, _, _, qs ++ [t], rfl, same_upd hrl (sm.trans s2), by rw [List.map_append]; exact upd_same, ?_⟩
        rw [take_snoc hr1, List.map_append]
        refine Paired.snoc (Paired.mapP hP fun _ _ z => sameT_sqT t3 z) ?_
        unfold tameR
        rw [if_pos (show inS r.d TAME = true from e)]
        exact sameT_sqT (sameT_lst (s2 _ _ hq)) (SqT.of upd_same)
      · have s1 := same_new (o := .tup [.str "getx", .str "tox", .str "up", .str "down"]) htp
        refine ⟨_, rfl, .inl ⟨rfl, _, SqL.of (s1 _ _ hq)⟩, _, rfl, _, rfl, _, rfl, (by show 3 ≤ sizeLine; decide), fun t ht => ?_⟩
        have s2 := s1.trans (same_new (o := .tup (rowV r)) ht)
        have t3 := (sameT_of s2).trans (sameT_lst (ys := qs.map V.ref ++ [.ref t]) (s2 _ _ hq))
        refine ⟨rl, _, _, rfl, rfl, s2 _ _ hq, small1000 (by rw [List.length_map]; omega), _, _, _, qs ++ [t], rfl, same_upd hrl (sm.trans s2), by rw [List.map_append]; exact upd_same, ?_⟩
        rw [take_snoc hr1, List.map_append]
        refine Paired.snoc (Paired.mapP hP fun _ _ z => sameT_sqT t3 z) ?_
        unfold tameR
        rw [if_neg (inS_f (l := TAME) e)]
        exact sameT_sqT (sameT_lst (s2 _ _ hq)) (SqT.of upd_same)
    · rintro σ H1 ⟨o2, o3, o4, qs, rfl, sm, hq, hP⟩
      rw [List.length_map, hlen, List.take_length] at hP
      exact ⟨_, rfl, rl, _, rfl, .inl ⟨SqL.of hq, fun t ht => k _ t (sm.trans (same_new ht)) ⟨qs, SqT.of upd_same, Paired.mapP hP fun _ _ z => same_sqT (same_new ht) z⟩⟩⟩
def sp_law_with_waits (K : PySem.W.Frag) : Sp := fun vs H Q _ => ∃ a Pr, vs = [.ref a] ∧ PgAt K H a Pr ∧ Pr.length ≤ 1000 ∧ ∀ H' p, Same H H' → PgAt K H' p (Pr.map waitR) → Q (.ref p) H'
abbrev N_law_with_waits : List Str := ["_law_program", "_law_rows", "_law_mark", "_law_deed", "_law_value_here"]
theorem sc_law_with_waits : FnScope N_law_with_waits ["_law_program"] (defScope s_law_with_waits) := ⟨rfl, rfl, rfl, by decide +kernel, rfl, by decide +kernel, by decide +kernel⟩
theorem ok_law_with_waits (T : TX K mg) : Ok P w K mg base 1 "_law_with_waits" ["_law_program"] (sp_law_with_waits K) := by
  refine T.d_law_with_waits.ok sc_law_with_waits (fun _ _ _ _ _ _ us hl => match us, hl with | [_], _ => rfl) (fun vs H Q E h => ?_) (fun f cdv A outer s H vs Q E hr h => ?_)
  · obtain ⟨_, _, rfl, _⟩ := h; rfl
  · obtain ⟨a, Pr, rfl, ⟨rs, hS, hrs⟩, hl, k⟩ := h
    have hlen := Paired.length hrs
    refine ⟨_, (pss_cons (ps_set (i := 1) sc_law_with_waits.nd rfl (Or.inl rfl) (pe_lst pa_nil))
        (pss_cons (ps_for PassesOwn.never rfl (pi_tup (pv 0)) (pg_tup rfl (pgs_cons (pg_name (i := 2) sc_law_with_waits.nd rfl (Or.inl rfl)) (pgs_cons (pg_name (i := 3) sc_law_with_waits.nd rfl (Or.inl rfl)) (pgs_cons (pg_name (i := 4) sc_law_with_waits.nd rfl (Or.inl rfl)) pgs_nil)))) (C8.pss_cut (ps_if (pt_cmpR op_in_seq (pv 3) (pe_tup (pa_cons pe_str (pa_cons pe_str (pa_cons pe_str (pa_cons pe_str pa_nil))))) rfl) (pss_one (ps_set (i := 3) sc_law_with_waits.nd rfl (Or.inl rfl) pe_str)) pss_nil)
          (pss_one (ps_expr (pe_bm PySem.F.plainAttrs_list PySem.F.slot_list_append PySem.F.type_list_append mt_append (pv 1) (pa_cons (pe_tup (pa_cons (pv 2) (pa_cons (pv 3) (pa_cons (pv 4) pa_nil)))) pa_nil))))))
        (pss_one (ps_ret (pe_callTy call_tuple_of rfl T.n_tuple (by decide +kernel) (pa_cons (pv 1) pa_nil)))))), ?_⟩
    refine ⟨Nat.zero_le _, fun rl hrl => ?_⟩
    have s0 := same_new (o := .lst []) hrl
    refine ⟨_, rfl, a, rfl, ⟨_, same_sqT s0 hS⟩, for_it (walk_tup (K := K) (a := a) (xs := rs.map V.ref)) (fun j σ H1 => ∃ o2 o3 o4 qs, σ = [some (.ref a), some (.ref rl), o2, o3, o4] ∧ Same H H1 ∧ H1 rl = some (.lst (qs.map V.ref)) ∧ Paired (fun b r => SqT K H1 b (rowV r)) qs ((Pr.take j).map waitR))
      ⟨none, none, none, [], rfl, s0, upd_same, .nil⟩ (fun _ _ _ _ ⟨_, _, _, _, _, e, _⟩ => same_sqT e hS) ?_ ?_⟩
    · rintro j x σ H1 H2 hj ⟨o2, o3, o4, qs, rfl, sm, hq, hP⟩ ⟨rfl, hx⟩
      rw [List.getElem?_map] at hx
      obtain ⟨b, hb, rfl⟩ := Option.map_eq_some_iff.mp hx
      obtain ⟨r, hr1, hr2⟩ := paired_atL hrs hb
      have hql := Paired.length hP
      rw [List.length_map, List.length_take] at hql
      refine ⟨b, rowV r, rfl, same_sqT sm hr2, rfl, _, _, rfl, _, _, rfl, _, _, rfl, rfl, ?_⟩
      refine ⟨fun σ' H' => σ' = [some (.ref a), some (.ref rl), some (.str (waitR r).m), some (.str (waitR r).d), some (waitR r).v] ∧ Same H2 H', ⟨_, rfl, (by show 4 ≤ sizeLine; decide), fun tp htp => ⟨tp, _, rfl, .inr (SqT.of upd_same), rfl, rfl, _, rfl, ite_b (fun e => ?_) fun e => ?_⟩⟩, ?_⟩
      · refine ⟨?_, same_new htp⟩
        unfold waitR
        rw [if_pos (show inS r.d WAITS = true from e)]
        rfl
      · refine ⟨?_, same_new htp⟩
        unfold waitR
        rw [if_neg (inS_f (l := WAITS) e)]
        rfl
      rintro σ' H3 ⟨rfl, s1⟩
      refine ⟨_, rfl, .inl ⟨rfl, _, SqL.of (s1 _ _ hq)⟩, _, rfl, _, rfl, _, rfl, (by show 3 ≤ sizeLine; decide), fun t ht => ?_⟩
      have s2 := s1.trans (same_new (o := .tup (rowV (waitR r))) ht)
      have t3 := (sameT_of s2).trans (sameT_lst (ys := qs.map V.ref ++ [.ref t]) (s2 _ _ hq))
      refine ⟨rl, _, _, rfl, rfl, s2 _ _ hq, small1000 (by rw [List.length_map]; omega), _, _, _, qs ++ [t], rfl, same_upd hrl (sm.trans s2), by rw [List.map_append]; exact upd_same, ?_⟩
      rw [take_snoc hr1, List.map_append]
      exact Paired.snoc (Paired.mapP hP fun _ _ z => sameT_sqT t3 z) (sameT_sqT (sameT_lst (s2 _ _ hq)) (SqT.of upd_same))
    · rintro σ H1 ⟨o2, o3, o4, qs, rfl, sm, hq, hP⟩
      rw [List.length_map, hlen, List.take_length] at hP
      exact ⟨_, rfl, rl, _, rfl, .inl ⟨SqL.of hq, fun t ht => k _ t (sm.trans (same_new ht)) ⟨qs, SqT.of upd_same, Paired.mapP hP fun _ _ z => same_sqT (same_new ht) z⟩⟩⟩
def sp_law_next_rows (K : PySem.W.Frag) : Sp := fun vs H Q _ => ∃ a Pr i r, vs = [.ref a, .int (i : Nat)] ∧ PgAt K H a Pr ∧ Pr.length ≤ 1000 ∧ Pr[i]? = some r ∧ r.d ∈ GOOD ∧ (eqS r.d "go" = true ∨ inS r.d IFS = true → MarkOk Pr r) ∧
  ∀ H' p vs, Same H H' → H p = none → H' p = some (.lst vs) → Paired (PrV H') vs (lawNext Pr i r) → Q (.ref p) H'
abbrev N_law_next_rows : List Str := ["_law_program", "_law_row", "_law_deed", "_law_value_here", "_law_marks", "_law_one"]
theorem sc_law_next_rows : FnScope N_law_next_rows ["_law_program", "_law_row"] (defScope s_law_next_rows) := ⟨rfl, rfl, rfl, by decide +kernel, rfl, by decide +kernel, by decide +kernel⟩
theorem ok_law_next_rows (T : TX K mg) : Ok P w K mg base 2 "_law_next_rows" ["_law_program", "_law_row"] (sp_law_next_rows K) := by
  refine T.d_law_next_rows.ok sc_law_next_rows (fun _ _ _ _ _ _ us hl => match us, hl with | [_, _], _ => rfl) (fun vs H Q E h => ?_) (fun f cdv A outer s H vs Q E hr h => ?_)
  · obtain ⟨_, _, _, _, rfl, _⟩ := h; rfl
  · obtain ⟨a, Pr, i, r, rfl, hP, hl, hi, hg, hm, k⟩ := h
    obtain ⟨rs, b, hS0, hb, hrow⟩ := hP.at hi
    obtain ⟨rs2, hS, hrs⟩ := id hP
    have hlen := Paired.length hrs
    refine ⟨_, (pss_cons (ps_asg (pe_slice sl_tupA (pe_ix ix_tup (pv 0) (pv 1) (fun _ _ => rfl)) (po_some pe_int) po_none) (pg_tup rfl (pgs_cons (pg_name (i := 2) sc_law_next_rows.nd rfl (Or.inl rfl)) (pgs_cons (pg_name (i := 3) sc_law_next_rows.nd rfl (Or.inl rfl)) pgs_nil))))
        (pss_cons (ps_setLc (i := 4) (own := [("_law_one", 5)]) (g := gName 5) (tt := tYes) (te := tOp (rIxT K) (tVar 5) (tC (.int 0))) rfl sc_law_next_rows.nd rfl rfl (sw_true rfl rfl rfl (by decide +kernel)) (pi_tup (pv 0)) (blkOk_by (N := N_law_next_rows) (sc := defScope s_law_next_rows) (by decide +kernel)) (fun _ _ _ _ _ => (pg_name (i := 5) sc_law_next_rows.nd rfl (Or.inl rfl))) (fun _ _ _ _ _ => pts_nil) (fun _ _ _ _ _ => (pe_ix ix_tup (pv 5) pe_int (fun _ _ => rfl))))
        (pss_cons (ps_if (pt_cmpR op_eq (pv 2) pe_str (nomark _)) (pss_one (ps_ret (pe_lst (pa_cons (pe_tup (pa_cons (pe_bm PySem.F.plainAttrs_list PySem.F.slot_list_index PySem.F.type_list_index mt_index (pv 4) (pa_cons (pv 3) pa_nil)) (pa_cons pe_int pa_nil))) pa_nil)))) pss_nil)
        (pss_cons (ps_if (pt_cmpR op_in_seq (pv 2) (pe_tup (pa_cons pe_str (pa_cons pe_str (pa_cons pe_str (pa_cons pe_str pa_nil))))) rfl) (pss_one (ps_ret (pe_lst (pa_cons (pe_tup (pa_cons (pe_op op_add (pv 1) pe_int) (pa_cons pe_int pa_nil))) (pa_cons (pe_tup (pa_cons (pe_bm PySem.F.plainAttrs_list PySem.F.slot_list_index PySem.F.type_list_index mt_index (pv 4) (pa_cons (pv 3) pa_nil)) (pa_cons pe_int pa_nil))) pa_nil))))) pss_nil)
        (pss_one (ps_ret (pe_lst (pa_cons (pe_tup (pa_cons (pe_op op_add (pv 1) pe_int) (pa_cons (pe_op op_add (pcall (ok_law_beats T) (hr.mono (by decide)) rfl (pa_cons (pe_bm PySem.F.plainAttrs_list PySem.F.slot_list_index PySem.F.type_list_index mt_index (pcall0 (ok_law_deeds T) (hr.mono (by decide)) rfl) (pa_cons (pv 2) pa_nil)) pa_nil)) (pe_callTy call_int1 rfl T.n_int (by decide +kernel) (pa_cons (pe_cmpR op_eq (pv 2) pe_str (nomark _)) pa_nil))) pa_nil))) pa_nil)))))))), ?_⟩
    refine ⟨_, rfl, _, rfl, a, _, _, _, rfl, rfl, hS0, nat_at hb, _, rfl, noPart (slA_of hrow fun p H1 s1 hc => ?_)⟩
    have hc : SqT K H1 p [.str r.d, r.v] := hc
    refine ⟨p, _, rfl, hc, rfl, _, _, rfl, _, _, rfl, rfl, ?_⟩
    refine ⟨_, rfl, a, rfl, ⟨_, same_sqT s1 hS⟩, fun D hD => lc_rel (walk_tup (K := K) (a := a) (xs := rs2.map V.ref)) (fun i y _ => ∀ r, Pr[i]? = some r → y = .str r.m) (fun _ _ _ _ h _ => h) (by rw [List.length_map]; omega) hD (fun H' e => same_sqT (s1.trans e) hS) hY_at ?_ ?_⟩
    · rintro i x H2 H3 C C0 hi' sm ⟨rfl, hx⟩ hC
      rw [List.getElem?_map] at hx
      obtain ⟨b, hb, rfl⟩ := Option.map_eq_some_iff.mp hx
      obtain ⟨r, hr1, hr2⟩ := paired_atL hrs hb
      exact ⟨rfl, yesT ⟨_, rfl, b, _, _, _, rfl, rfl, same_sqT (s1.trans sm) hr2, rfl, hC _ _ (Same.refl _) fun r' e => by rw [hr1] at e; cases e; rfl⟩⟩
    · intro H2 ys sm hD' hn hy
      have ey : ys = Pr.map fun r => V.str r.m := map_of_rel (by rw [hn, List.length_map]; exact hlen) fun i y e r hr' => hy i y e r hr'
      subst ey
      have s12 := s1.trans sm
      have flat : (Pr.map fun r => V.str r.m).all flatV = true := by rw [show (Pr.map fun r => V.str r.m) = (Pr.map (·.m)).map V.str by rw [List.map_map]; rfl]; exact flat_strs _
      unfold lawNext at k
      refine ⟨_, rfl, rfl, _, rfl, ite_b (fun e => ?_) fun e => ?_⟩
      · rw [if_pos (show eqS r.d "go" = true from e)] at k
        obtain ⟨z, hz, hzl⟩ := hm (.inl e)
        have ht : tgt Pr r = ixOf Pr z := by unfold tgt; rw [hz]; rfl
        rw [hz]
        refine ⟨_, rfl, .inl ⟨rfl, _, SqL.of hD'⟩, _, rfl, D, _, _, ixOf Pr z, _, rfl, rfl, SqL.of hD', rfl, flat, ix_at hzl, beq_self_eq_true z, fun m z' hm e => ix_first hm e, (by show 2 ≤ sizeLine; decide), fun t ht2 => ⟨(by show 1 ≤ sizeLine; decide), fun q hq => ?_⟩⟩
        have s3 := (same_new (o := .tup [.int (ixOf Pr z : Nat), .int 3]) ht2).trans (same_new (o := .lst [.ref t]) hq)
        refine k _ q [.ref t] (s12.trans s3) ((s12.trans (same_new ht2)).free hq) upd_same (.cons ⟨t, rfl, ?_⟩ .nil)
        rw [ht]
        exact same_new hq _ _ upd_same
      · rw [if_neg (eqS_f e)] at k
        refine ⟨_, rfl, (by show 4 ≤ sizeLine; decide), fun tp htp => ⟨tp, _, rfl, .inr (SqT.of upd_same), rfl, rfl, _, rfl, ite_b (fun e2 => ?_) fun e2 => ?_⟩⟩
        · rw [if_pos (show inS r.d IFS = true from e2)] at k
          obtain ⟨z, hz, hzl⟩ := hm (.inr e2)
          have ht : tgt Pr r = ixOf Pr z := by unfold tgt; rw [hz]; rfl
          rw [hz]
          have s3 := same_new (o := .tup [.str "ifz", .str "ifn", .str "ifc", .str "ifd"]) htp
          refine ⟨_, rfl, _, _, rfl, rfl, (by show 2 ≤ sizeLine; decide), fun t1 ht1 => ?_⟩
          have s4 := s3.trans (same_new (o := .tup [.int ((i : Int) + 1), .int 2]) ht1)
          refine ⟨_, rfl, .inl ⟨rfl, _, SqL.of (s4 _ _ hD')⟩, _, rfl, D, _, _, ixOf Pr z, _, rfl, rfl, SqL.of (s4 _ _ hD'), rfl, flat, ix_at hzl, beq_self_eq_true z, fun m z' hm e => ix_first hm e, (by show 2 ≤ sizeLine; decide), fun t ht2 => ⟨(by show 2 ≤ sizeLine; decide), fun q hq => ?_⟩⟩
          have s5 := (same_new (o := .tup [.int (ixOf Pr z : Nat), .int 3]) ht2)
          have s6 := (same_new (o := .lst [.ref t1, .ref t]) hq)
          refine k _ q [.ref t1, .ref t] (s12.trans (s4.trans (s5.trans s6))) ((s12.trans (s4.trans s5)).free hq) upd_same (.cons ⟨t1, rfl, s6 _ _ (s5 _ _ upd_same)⟩ (.cons ⟨t, rfl, ?_⟩ .nil))
          rw [ht]
          exact s6 _ _ upd_same
        · rw [if_neg (inS_f (l := IFS) e2)] at k
          have s3 := same_new (o := .tup [.str "ifz", .str "ifn", .str "ifc", .str "ifd"]) htp
          have hpd : ixOf PD r.d < PD.length := by
            have : ∀ d ∈ GOOD, ixOf PD d < PD.length := by decide +kernel
            exact this _ hg
          have epd : (PD.map fun r => V.str r.m) = DEEDS.map V.str := rfl
          have a1 := ix_at hpd
          rw [epd] at a1
          refine ⟨_, rfl, _, _, rfl, rfl, rfl, fun H3 dl s4 hdl => ⟨.inl ⟨rfl, _, SqL.of hdl⟩, _, rfl, dl, _, _, ixOf PD r.d, _, rfl, rfl, SqL.of hdl, rfl, flat_strs DEEDS, a1, beq_self_eq_true r.d, fun m z' hm e => ix_first (P := PD) hm (by rw [epd]; exact e), ixOf PD r.d, rfl, ?_, fun H4 s5 => ?_⟩⟩
          · show ixOf PD r.d < 31
            exact hpd
          · refine ⟨_, rfl, rfl, .inr ⟨_, rfl, _, _, rfl, rfl, (by show 2 ≤ sizeLine; decide), fun t ht2 => ⟨(by show 1 ≤ sizeLine; decide), fun q hq => ?_⟩⟩⟩
            have s6 := (same_new (o := .tup [.int ((i : Int) + 1), .int (BEATS.getD (ixOf PD r.d) 0 + (if decide (V.str r.d = V.str "at") = true then 1 else 0))]) ht2)
            exact k _ q [.ref t] (s12.trans ((s3.trans s4).trans (s5.trans (s6.trans (same_new hq))))) ((s12.trans ((s3.trans s4).trans (s5.trans s6))).free hq) upd_same (.cons ⟨t, rfl, same_new hq _ _ upd_same⟩ .nil)
end

/-! ### the law's own search for lateness -/
def nx (Pr : Pg) (p q : Nat × Int) : Nat × Int := (q.1, (p.2 + q.2) * (if waitAt Pr p.1 = true then 0 else 1))
def lawNx (Pr : Pg) (i : Nat) : List (Nat × Int) := match Pr[i]? with
  | none => []
  | some r => lawNext Pr i r
structure LawOk (Pr : Pg) (n : Nat) : Prop where
  pl : Pr.length ≤ 1000
  n0 : 0 < n
  n12 : n ≤ 12
  row : ∀ i, i < n → ∃ r, Pr[i]? = some r ∧ r.d ∈ GOOD ∧ (eqS r.d "go" = true ∨ inS r.d IFS = true → MarkOk Pr r) ∧ ∀ q ∈ lawNext Pr i r, q.1 < n ∧ 0 ≤ q.2
structure Closed (Pr : Pg) (F : List (Nat × Int)) : Prop where
  first : (0, 0) ∈ F
  most : ∀ p ∈ F, p.2 ≤ 30
  step : ∀ p ∈ F, ∀ q ∈ lawNx Pr p.1, nx Pr p q ∈ F
theorem kL_inj {p q : Nat × Int} (h : kL p = kL q) : p = q := by
  obtain ⟨a, b⟩ := p
  obtain ⟨c, d⟩ := q
  unfold kL at h
  simp only [List.cons.injEq, and_true] at h
  obtain ⟨h1, h2⟩ := h
  have : a = c := by omega
  subst this h2
  rfl
theorem atX_mem {xs : List DEnt} {F : List (Nat × Int)} (h : xs.map (·.1) = F.map kL) (p : Nat × Int) : (atX xs (kL p)).isSome = decide (p ∈ F) := by
  induction xs generalizing F with
  | nil =>
    cases F with
    | nil => rfl
    | cons q F => cases h
  | cons x xs ih =>
    cases F with
    | nil => cases h
    | cons q F =>
      rw [List.map_cons, List.map_cons] at h
      obtain ⟨h1, h2⟩ := List.cons.inj h
      rw [atX_cons]
      by_cases e : x.1 = kL p
      · rw [if_pos e]
        have : q = p := kL_inj (h1.symm.trans e)
        rw [decide_eq_true (List.mem_cons.mpr (.inl this.symm))]
        rfl
      · rw [if_neg e, ih h2]
        have hq : ¬ p = q := fun z => e (by rw [h1, z])
        by_cases hp : p ∈ F
        · rw [decide_eq_true hp, decide_eq_true (List.mem_cons_of_mem _ hp)]
        · rw [decide_eq_false hp, decide_eq_false (fun z => by
            rcases List.mem_cons.mp z with z | z
            · exact hq z
            · exact hp z)]
theorem stoX_new {xs : List DEnt} {k : List Int} {b : Addr} {v : V} (h : (atX xs k).isSome = false) : stoX xs k b v = xs ++ [(k, b, v)] := by
  unfold stoX
  rw [h]
  rfl
def U2 (n : Nat) : List (Nat × Int) := (List.range n).flatMap fun r => (List.range 31).map fun (b : Nat) => (r, (b : Int))
theorem u2_mem {n : Nat} {p : Nat × Int} (h1 : p.1 < n) (h2 : 0 ≤ p.2) (h3 : p.2 ≤ 30) : p ∈ U2 n := by
  obtain ⟨r, b⟩ := p
  refine List.mem_flatMap.mpr ⟨r, List.mem_range.mpr h1, List.mem_map.mpr ⟨b.toNat, List.mem_range.mpr (by omega), ?_⟩⟩
  show (r, ((b.toNat : Nat) : Int)) = (r, b)
  rw [Int.toNat_of_nonneg h2]
theorem u2_len {n : Nat} (h : n ≤ 12) : (U2 n).length ≤ 400 := by
  have e : ∀ m : Nat, (U2 m).length = 31 * m := fun m => by
    unfold U2
    induction m with
    | zero => rfl
    | succ m ih =>
      rw [List.range_succ (n := m), List.flatMap_append, List.length_append, ih]
      simp
      omega
  rw [e]
  omega
/-- what is known between the turns -/
structure FI (Pr : Pg) (n : Nat) (A : Nat × Int → Nat × Int → Prop) (F W : List (Nat × Int)) : Prop where
  nd : F.Nodup
  fb : ∀ p ∈ F, p.1 < n ∧ 0 ≤ p.2 ∧ p.2 ≤ 30
  wf : ∀ p ∈ W, p ∈ F
  first : (0, 0) ∈ F
  clo : ∀ p ∈ F, p ∈ W ∨ ∀ q ∈ lawNx Pr p.1, A p q → nx Pr p q ∈ F
theorem FI.len {Pr : Pg} {n : Nat} {A : Nat × Int → Nat × Int → Prop} {F W : List (Nat × Int)} (I : FI Pr n A F W) : F.length ≤ (U2 n).length := nodup_len I.nd fun p hp => let ⟨h1, h2, h3⟩ := I.fb p hp; u2_mem h1 h2 h3
theorem FI.more {Pr : Pg} {n : Nat} {F W F2 W2 D : List (Nat × Int)} {p q : Nat × Int} (I : FI Pr n (fun p' q' => p' = p → q' ∈ D) F W) (hF : ∀ x ∈ F, x ∈ F2) (hW : ∀ x ∈ W, x ∈ W2) (hnew : ∀ x ∈ F2, x ∈ F ∨ x ∈ W2) (hq : nx Pr p q ∈ F2) :
    ∀ x ∈ F2, x ∈ W2 ∨ ∀ q' ∈ lawNx Pr x.1, (x = p → q' ∈ D ++ [q]) → nx Pr x q' ∈ F2 := fun x hx => by
  rcases hnew x hx with h | h
  · rcases I.clo x h with h2 | h2
    · exact .inl (hW x h2)
    · refine .inr fun q' hq' hA => ?_
      by_cases e : x = p
      · rcases List.mem_append.mp (hA e) with h3 | h3
        · exact hF _ (h2 q' hq' fun _ => h3)
        · rw [List.mem_singleton.mp h3, e]; exact hq
      · exact hF _ (h2 q' hq' fun z => absurd z e)
  · exact .inl h
structure LBt (P : Program) (w : World) (K : PySem.W.Frag) (fd dl : Addr) (xs : List DEnt) (ws : List V) (F W : List (Nat × Int)) (H : Hp) : Prop where
  dd : H fd = some (DO P w fd xs)
  kk : KeyK K H xs
  fx : xs.map (·.1) = F.map kL
  wl : H dl = some (.lst ws)
  wk : Paired (fun v p => ∃ b, v = .ref b ∧ SqT K H b ((kL p).map V.int)) ws W
section
variable {P : Program} {w : World} {K : PySem.W.Frag} {mg : Str → Option Value} {base : Heap}
def sp_law_may_be_late (P : Program) (w : World) (K : PySem.W.Frag) : Sp := fun vs H Q _ => ∃ a Pr n, vs = [.ref a] ∧ PgAt K H a Pr ∧ LawOk Pr n ∧ (∀ H', SameT H H' → Q (.bl true) H') ∧ ∀ H' F, SameT H H' → Closed Pr F → Q (.bl false) H'
abbrev N_law_may_be_late : List Str := ["_law_program", "_law_due", "_law_found", "_law_row", "_law_beat", "_law_other", "_law_beats_here", "_law_new"]
theorem sc_law_may_be_late : FnScope N_law_may_be_late ["_law_program"] (defScope s_law_may_be_late) := ⟨rfl, rfl, rfl, by decide +kernel, rfl, by decide +kernel, by decide +kernel⟩
theorem ok_law_may_be_late (T : TX K mg) : Ok P w K mg base 3 "_law_may_be_late" ["_law_program"] (sp_law_may_be_late P w K) := by
  refine T.d_law_may_be_late.ok sc_law_may_be_late (fun _ _ _ _ _ _ us hl => match us, hl with | [_], _ => rfl) (fun vs H Q E h => ?_) (fun f cdv A outer s H vs Q E hr h => ?_)
  · obtain ⟨_, _, _, rfl, _⟩ := h; rfl
  · obtain ⟨a, Pr, n, rfl, hP, L, k1, k2⟩ := h
    refine ⟨_, (pss_cons (ps_set (i := 1) sc_law_may_be_late.nd rfl (Or.inl rfl) (pe_lst (pa_cons (pe_tup (pa_cons pe_int (pa_cons pe_int pa_nil))) pa_nil)))
        (pss_cons (ps_set (i := 2) sc_law_may_be_late.nd rfl (Or.inl rfl) (pe_xdisp hr.units0 (pe_tup (pa_cons pe_int (pa_cons pe_int pa_nil))) pe_bl))
        (pss_cons (ps_while PassesOwn.never (pt_cmpR op_gt (pe_callB call_len_seq rfl T.n_len (by decide +kernel) (pa_cons (pv 1) pa_nil)) pe_int (nomark _)) (pss_cons (ps_asg (pe_bm0 PySem.F.plainAttrs_list PySem.F.slot_list_pop PySem.F.type_list_pop mt_pop (pv 1)) (pg_tup rfl (pgs_cons (pg_name (i := 3) sc_law_may_be_late.nd rfl (Or.inl rfl)) (pgs_cons (pg_name (i := 4) sc_law_may_be_late.nd rfl (Or.inl rfl)) pgs_nil))))
          (pss_one (ps_for PassesOwn.never rfl (pi_list (pcall (ok_law_next_rows T) (hr.mono (by decide)) rfl (pa_cons (pv 0) (pa_cons (pv 3) pa_nil)))) (pg_tup rfl (pgs_cons (pg_name (i := 5) sc_law_may_be_late.nd rfl (Or.inl rfl)) (pgs_cons (pg_name (i := 6) sc_law_may_be_late.nd rfl (Or.inl rfl)) pgs_nil))) (pss_cons (ps_set (i := 7) sc_law_may_be_late.nd rfl (Or.inl rfl) (pe_tup (pa_cons (pv 5) (pa_cons (pe_op op_mul (pe_op op_add (pv 4) (pv 6)) (pe_callTy call_int1 rfl T.n_int (by decide +kernel) (pa_cons (pe_cmpR op_ne (pe_ix ix_tup (pe_ix ix_tup (pv 0) (pv 3) (fun _ _ => rfl)) pe_int (fun _ _ => rfl)) pe_str (nomark _)) pa_nil))) pa_nil))))
            (pss_cons (ps_if (pt_cmpR op_gt (pe_ix ix_tup (pv 7) pe_int (fun _ _ => rfl)) pe_int (nomark _)) (pss_one (ps_ret pe_bl)) pss_nil)
            (pss_one (ps_if (pt_cmpR (op_xnotin (hu_of hr)) (pv 7) (pv 2) rfl) (pss_cons (ps_xput (hu_of hr) (pv 2) (pv 7) pe_bl rfl)
              (pss_one (ps_expr (pe_bm PySem.F.plainAttrs_list PySem.F.slot_list_append PySem.F.type_list_append mt_append (pv 1) (pa_cons (pv 7) pa_nil))))) pss_nil))))))))
        (pss_one (ps_ret pe_bl))))), ?_⟩
    refine ⟨(by show 2 ≤ sizeLine; decide), fun t1 ht1 => ⟨(by show 1 ≤ sizeLine; decide), fun dl hdl => ?_⟩⟩
    have s02 := (same_new (o := .tup [.int 0, .int 0]) ht1).trans (same_new (o := .lst [.ref t1]) hdl)
    have d2 : (upd (upd H t1 (.tup [.int 0, .int 0])) dl (.lst [.ref t1])) dl = some (.lst [.ref t1]) := upd_same
    have t2 : (upd (upd H t1 (.tup [.int 0, .int 0])) dl (.lst [.ref t1])) t1 = some (.tup [.int 0, .int 0]) := same_new hdl _ _ upd_same
    generalize (upd (upd H t1 (.tup [.int 0, .int 0])) dl (.lst [.ref t1])) = H2 at s02 d2 t2 ⊢
    refine fun fd hfd => ⟨(by show 2 ≤ sizeLine; decide), fun tb htb => ?_⟩
    have s23 := (same_new (o := DO P w fd []) hfd).trans (same_new (o := .tup [.int 0, .int 0]) htb)
    have f3 : (upd (upd H2 fd (DO P w fd [])) tb (.tup [.int 0, .int 0])) fd = some (DO P w fd []) := same_new htb _ _ upd_same
    have b3 : (upd (upd H2 fd (DO P w fd [])) tb (.tup [.int 0, .int 0])) tb = some (.tup [.int 0, .int 0]) := upd_same
    refine ⟨_, tb, kL (0, 0), rfl, f3, SqT.of b3, ?_⟩
    simp only [cxp, cxw, cxk, cxp2, cxw2, cxk2]
    generalize (upd (upd H2 fd (DO P w fd [])) tb (.tup [.int 0, .int 0])) = H3 at s23 f3 b3 ⊢
    have ndf : dl ≠ fd := ne_of (s23 _ _ d2) f3 (fun z => nomatch z)
    have t34 : SameT H3 (upd H3 fd (DO P w fd [(kL (0, 0), tb, .bl true)])) := sameT_ext f3
    have f4 : (upd H3 fd (DO P w fd [(kL (0, 0), tb, .bl true)])) fd = some (DO P w fd [(kL (0, 0), tb, .bl true)]) := upd_same
    have d4 : (upd H3 fd (DO P w fd [(kL (0, 0), tb, .bl true)])) dl = some (.lst [.ref t1]) := by rw [upd_ne ndf]; exact s23 _ _ d2
    generalize (upd H3 fd (DO P w fd [(kL (0, 0), tb, .bl true)])) = H4 at t34 f4 d4 ⊢
    have t04 := (sameT_of (s02.trans s23)).trans t34
    have t1' := t34.tup _ _ (s23 _ _ t2)
    have tb' := t34.tup _ _ b3
    have ul := u2_len L.n12
    refine ⟨fun m σ H5 => ∃ xs ws F W o3 o4 o5 o6 o7, σ = [some (.ref a), some (.ref dl), some (.ref fd), o3, o4, o5, o6, o7] ∧ SameT H H5 ∧ LBt P w K fd dl xs ws F W H5 ∧ FI Pr n (fun _ _ => True) F W ∧ 2 * ((U2 n).length - F.length) + W.length = m ∧ m ≤ 900,
      ⟨_, [(kL (0, 0), tb, .bl true)], [.ref t1], [(0, 0)], [(0, 0)], none, none, none, none, none, rfl, t04, ⟨f4, fun x hx => ?_, rfl, d4, .cons ⟨t1, rfl, SqT.of t1'⟩ .nil⟩, ⟨by simp, fun p hp => ?_, fun p hp => hp, List.mem_singleton.mpr rfl, fun p hp => .inl hp⟩, rfl, (by show 2 * ((U2 n).length - 1) + 1 ≤ 900; omega)⟩, ?_⟩
    · obtain rfl := List.mem_singleton.mp hx
      exact SqT.of tb'
    · obtain rfl := List.mem_singleton.mp hp
      exact ⟨L.n0, by decide, by decide⟩
    · rintro m σ H5 ⟨xs, ws, F, W, o3, o4, o5, o6, o7, rfl, t05, B, I, hm, hm9⟩
      have hwl : ws.length = W.length := Paired.length B.wk
      refine ⟨_, rfl, dl, ws, rfl, .inl (SqL.of B.wl), _, _, rfl, rfl, _, rfl, ite_b (fun e => ?_) fun e => ?_⟩
      · have hpos : 0 < ws.length := by have := of_decide_eq_true e; omega
        obtain ⟨v, hv⟩ := last_some hpos
        obtain ⟨p, hp, pb, rfl, hpb⟩ := paired_atL B.wk hv
        have hpF := I.wf p (List.mem_of_getElem? hp)
        obtain ⟨hpn, hp0, hp30⟩ := I.fb p hpF
        obtain ⟨r, hr, hg, hmk, hnx⟩ := L.row p.1 hpn
        have hWd : W = W.dropLast ++ [p] := drop_last_eq (by rw [← hwl]; exact hp)
        have hFl := I.len
        refine ⟨fun σ' H' => ∃ m', m' < m ∧ ∃ xs ws F W o3 o4 o5 o6 o7, σ' = [some (.ref a), some (.ref dl), some (.ref fd), o3, o4, o5, o6, o7] ∧ SameT H H' ∧ LBt P w K fd dl xs ws F W H' ∧ FI Pr n (fun _ _ => True) F W ∧ 2 * ((U2 n).length - F.length) + W.length = m' ∧ m' ≤ 900, fun _ _ h => h, ?_⟩
        have t6 : SameT H5 (upd H5 dl (.lst ws.dropLast)) := sameT_lst B.wl
        refine ⟨_, rfl, .inl ⟨rfl, _, SqL.of B.wl⟩, dl, ws, _, rfl, rfl, B.wl, hv, pb, _, rfl, sameT_sqT t6 hpb, rfl, _, _, rfl, _, _, rfl, rfl, ?_⟩
        have B6 : LBt P w K fd dl xs ws.dropLast F W.dropLast (upd H5 dl (.lst ws.dropLast)) := ⟨by rw [upd_ne ndf.symm]; exact B.dd, B.kk.sameT t6, B.fx, upd_same, Paired.mapP (paired_drop B.wk) fun _ _ ⟨b, h1, h2⟩ => ⟨b, h1, sameT_sqT t6 h2⟩⟩
        have I6 : FI Pr n (fun p' q => p' = p → q ∈ ([] : List (Nat × Int))) F W.dropLast := ⟨I.nd, I.fb, fun q hq => I.wf q (List.dropLast_subset _ hq), I.first, fun q hq => by
          by_cases e2 : q = p
          · exact .inr fun q' _ h => absurd (h e2) (by simp)
          · rcases I.clo q hq with h | h
            · rw [hWd] at h
              rcases List.mem_append.mp h with h | h
              · exact .inl h
              · exact absurd (List.mem_singleton.mp h) e2
            · exact .inr fun q' hq' _ => h q' hq' True.intro⟩
        have t06 := t05.trans t6
        generalize upd H5 dl (.lst ws.dropLast) = H6 at t6 B6 t06 ⊢
        refine ⟨_, rfl, _, rfl, a, Pr, p.1, r, rfl, hP.sameT t06, L.pl, hr, hg, hmk, fun H7 pl vs s7 hpn7 hpl hvs => ?_⟩
        have npf : pl ≠ fd := (ne_of_none B6.dd hpn7).symm
        have npd : pl ≠ dl := (ne_of_none B6.wl hpn7).symm
        have hvl : vs.length = (lawNext Pr p.1 r).length := Paired.length hvs
        have hlx : lawNx Pr p.1 = lawNext Pr p.1 r := by unfold lawNx; rw [hr]
        refine ⟨pl, rfl, ⟨_, SqL.of hpl⟩, for_list (K := K) (a := pl) (xs := vs) (fun j σ H8 => ∃ xs ws F' W' o5 o6 o7, σ = [some (.ref a), some (.ref dl), some (.ref fd), some (.int (p.1 : Nat)), some (.int p.2), o5, o6, o7] ∧ SameT H7 H8 ∧ H8 pl = some (.lst vs) ∧ LBt P w K fd dl xs ws F' W' H8 ∧
            FI Pr n (fun p' q => p' = p → q ∈ (lawNext Pr p.1 r).take j) F' W' ∧ 2 * ((U2 n).length - F'.length) + W'.length < m ∧ p ∈ F') ⟨xs, ws.dropLast, F, W.dropLast, o5, o6, o7, rfl, ⟨fun _ _ h => h, fun _ _ _ h => h⟩, hpl,
            ⟨s7 _ _ B6.dd, B6.kk.sameT (sameT_of s7), B6.fx, s7 _ _ B6.wl, Paired.mapP B6.wk fun _ _ ⟨b, h1, h2⟩ => ⟨b, h1, same_sqT s7 h2⟩⟩, I6, by rw [List.length_dropLast]; omega, hpF⟩ (fun j σ H8 _ ⟨_, _, _, _, _, _, _, _, _, h, _⟩ => SqL.of h) ?_ ?_⟩
        · rintro j v σ H8 hj ⟨xs, ws, F', W', o5, o6, o7, rfl, t8, hpl8, B8, I8, hm8, hpF'⟩
          obtain ⟨q, hq, bb, rfl, hbb⟩ := paired_atL hvs hj
          obtain ⟨hqn, hq0⟩ := hnx q (List.mem_of_getElem? hq)
          have t09 := (t06.trans (sameT_of s7)).trans t8
          obtain ⟨rs, rb, hpr, hbr, hrow⟩ := (hP.sameT t09).at hr
          have hnv : (p.2 + q.2) * (if (!decide (V.str r.d = V.str "wait")) = true then (1 : Int) else 0) = (nx Pr p q).2 := by
            show _ = (p.2 + q.2) * (if waitAt Pr p.1 = true then 0 else 1)
            rw [wait_eq hr]
            unfold eqS
            cases decide (V.str r.d = V.str "wait") <;> rfl
          have hn0 : 0 ≤ (nx Pr p q).2 := by
            show 0 ≤ (p.2 + q.2) * (if waitAt Pr p.1 = true then 0 else 1)
            split <;> omega
          refine ⟨bb, _, rfl, SqT.of (t8.tup _ _ hbb), rfl, _, _, rfl, _, _, rfl, rfl, ?_⟩
          refine ⟨_, rfl, _, rfl, _, rfl, _, _, rfl, rfl, _, rfl, _, rfl, a, _, _, _, rfl, rfl, hpr, nat_at hbr, rb, _, _, _, rfl, rfl, hrow, rfl, rfl, .inr ⟨_, rfl, _, _, rfl, rfl, .inr ?_, (by show 2 ≤ sizeLine; decide), fun nb hnb => ?_⟩⟩
          · split
            · exact ⟨by decide, by decide⟩
            · exact ⟨by decide, by decide⟩
          have e9 : (upd H8 nb (.tup [.int (q.1 : Nat), .int ((p.2 + q.2) * (if (!decide (V.str r.d = V.str "wait")) = true then (1 : Int) else 0))])) nb = some (.tup ((kL (nx Pr p q)).map V.int)) := by
            rw [upd_same, hnv]
            rfl
          have s9 := same_new (o := .tup [.int (q.1 : Nat), .int ((p.2 + q.2) * (if (!decide (V.str r.d = V.str "wait")) = true then (1 : Int) else 0))]) hnb
          generalize hH9 : upd H8 nb (.tup [.int (q.1 : Nat), .int ((p.2 + q.2) * (if (!decide (V.str r.d = V.str "wait")) = true then (1 : Int) else 0))]) = H9 at e9 s9
          have B9 : LBt P w K fd dl xs ws F' W' H9 := ⟨s9 _ _ B8.dd, B8.kk.sameT (sameT_of s9), B8.fx, s9 _ _ B8.wl, Paired.mapP B8.wk fun _ _ ⟨b, h1, h2⟩ => ⟨b, h1, same_sqT s9 h2⟩⟩
          have t89 := t8.trans (sameT_of s9)
          have hFl8 := I8.len
          have hxl : xs.length = F'.length := by
            have := congrArg List.length B8.fx
            rw [List.length_map, List.length_map] at this
            exact this
          have hwl8 : ws.length = W'.length := Paired.length B8.wk
          refine ⟨_, rfl, nb, _, _, _, rfl, rfl, SqT.of e9, rfl, _, _, rfl, rfl, _, rfl, ite_b (fun e3 => ?_) fun e3 => ?_⟩
          · exact k1 _ (t09.trans (sameT_of s9))
          · have h30 : ¬ 30 < (nx Pr p q).2 := of_decide_eq_false e3
            refine ⟨_, rfl, _, rfl, fd, nb, xs, kL (nx Pr p q), rfl, rfl, B9.dd, B9.kk, SqT.of e9, _, rfl, ?_⟩
            rw [if_pos rfl, atX_mem B9.fx]
            by_cases hin : nx Pr p q ∈ F'
            · rw [decide_eq_true hin]
              refine iteF ⟨xs, ws, F', W', _, _, _, rfl, t89, s9 _ _ hpl8, B9, ⟨I8.nd, I8.fb, I8.wf, I8.first, ?_⟩, hm8, hpF'⟩
              rw [take_snoc hq]
              exact FI.more I8 (fun _ h => h) (fun _ h => h) (fun _ h => .inl h) hin
            · rw [decide_eq_false hin]
              have hsm : xs.length < sizeLine := small1000 (by omega)
              refine iteT ⟨_, rfl, _, rfl, fd, nb, xs, kL (nx Pr p q), rfl, rfl, B9.dd, B9.kk, SqT.of e9, hsm, ?_⟩
              have hst : stoX xs (kL (nx Pr p q)) nb (.bl true) = xs ++ [(kL (nx Pr p q), nb, .bl true)] := stoX_new (by rw [atX_mem B9.fx]; exact decide_eq_false hin)
              have t10 : SameT H9 (upd H9 fd (DO P w fd (stoX xs (kL (nx Pr p q)) nb (.bl true)))) := sameT_ext B9.dd
              have wl10 : (upd H9 fd (DO P w fd (stoX xs (kL (nx Pr p q)) nb (.bl true)))) dl = some (.lst ws) := by rw [upd_ne ndf]; exact B9.wl
              have t11 := t10.trans (sameT_lst (ys := ws ++ [.ref nb]) wl10)
              have I' : FI Pr n (fun p' q' => p' = p → q' ∈ (lawNext Pr p.1 r).take (j + 1)) (F' ++ [nx Pr p q]) (W' ++ [nx Pr p q]) := by
                refine ⟨List.nodup_append.mpr ⟨I8.nd, by simp, fun x hx y hy => by rw [List.mem_singleton.mp hy]; exact fun e => hin (e ▸ hx)⟩, fun x hx => ?_, fun x hx => ?_, List.mem_append.mpr (.inl I8.first), ?_⟩
                · rcases List.mem_append.mp hx with h | h
                  · exact I8.fb x h
                  · rw [List.mem_singleton.mp h]; exact ⟨hqn, hn0, by omega⟩
                · rcases List.mem_append.mp hx with h | h
                  · exact List.mem_append.mpr (.inl (I8.wf x h))
                  · exact List.mem_append.mpr (.inr h)
                · rw [take_snoc hq]
                  refine FI.more I8 (fun x h => List.mem_append.mpr (.inl h)) (fun x h => List.mem_append.mpr (.inl h)) (fun x h => ?_) (List.mem_append.mpr (.inr (List.mem_singleton.mpr rfl)))
                  rcases List.mem_append.mp h with h | h
                  · exact .inl h
                  · exact .inr (List.mem_append.mpr (.inr h))
              have hFl' := I'.len
              rw [List.length_append, List.length_singleton] at hFl'
              refine ⟨_, rfl, .inl ⟨rfl, _, SqL.of wl10⟩, _, rfl, dl, ws, _, rfl, rfl, wl10, small1000 (by omega), stoX xs (kL (nx Pr p q)) nb (.bl true), ws ++ [.ref nb], F' ++ [nx Pr p q], W' ++ [nx Pr p q], _, _, _, rfl, t89.trans t11, ?_, ⟨?_, KeyK.sameT (keyK_sto (v := .bl true) B9.kk (SqT.of e9)) t11, ?_, upd_same, Paired.snoc (Paired.mapP B9.wk fun _ _ ⟨b, h1, h2⟩ => ⟨b, h1, sameT_sqT t11 h2⟩) ⟨nb, rfl, sameT_sqT t11 (SqT.of e9)⟩⟩, I', ?_, List.mem_append.mpr (.inl hpF')⟩
              · rw [upd_ne npd, upd_ne npf]; exact s9 _ _ hpl8
              · rw [upd_ne ndf.symm]; exact upd_same
              · rw [hst, List.map_append, List.map_append, B9.fx]; rfl
              · rw [List.length_append, List.length_append, List.length_singleton]; omega
        · rintro σ H8 ⟨xs, ws, F', W', o5, o6, o7, rfl, t8, hpl8, B8, I8, hm8, _⟩
          rw [hvl, List.take_length] at I8
          refine ⟨_, hm8, xs, ws, F', W', _, _, _, _, _, rfl, (t06.trans (sameT_of s7)).trans t8, B8, ⟨I8.nd, I8.fb, I8.wf, I8.first, fun q hq => ?_⟩, rfl, by omega⟩
          rcases I8.clo q hq with h | h
          · exact .inl h
          · exact .inr fun q' hq' _ => h q' hq' fun e2 => by
              rw [e2, hlx] at hq'
              exact hq'
      · have hW0 : W = [] := by
          have := of_decide_eq_false e
          exact List.eq_nil_of_length_eq_zero (by omega)
        refine k2 H5 F t05 ⟨I.first, fun p hp => (I.fb p hp).2.2, fun p hp q hq => ?_⟩
        rcases I.clo p hp with h | h
        · rw [hW0] at h; cases h
        · exact h q hq True.intro
end

/-! ### programs as drawn: what the walks ask -/
theorem addrs_bd : ∀ (P : Pg) (b a : Int), a ∈ addrs P b → b ≤ a ∧ a < b + 2 * (P.length : Int)
  | [], _, _, h => nomatch h
  | r :: P, b, a, h => by
    have hc : 1 ≤ byteC r.d ∧ byteC r.d ≤ 2 := by unfold byteC; split <;> (try split) <;> omega
    rcases List.mem_cons.mp (show a ∈ b :: addrs P (b + byteC r.d) from h) with h | h
    · rw [h, List.length_cons]; omega
    · have := addrs_bd P _ _ h
      rw [List.length_cons]
      omega
theorem sum_bd : ∀ P : Pg, 0 ≤ (P.map fun r => byteC r.d).sum ∧ (P.map fun r => byteC r.d).sum ≤ 2 * (P.length : Int)
  | [] => ⟨by decide, by decide⟩
  | r :: P => by
    have hc : 1 ≤ byteC r.d ∧ byteC r.d ≤ 2 := by unfold byteC; split <;> (try split) <;> omega
    have := sum_bd P
    rw [List.map_cons, List.sum_cons, List.length_cons]
    omega
theorem addr_small {P : Pg} (h : P.length ≤ 14) (j : Nat) : 0 ≤ (addrs P 0).getD j 0 ∧ (addrs P 0).getD j 0 < 32 := by
  rw [List.getD_eq_getElem?_getD]
  cases e : (addrs P 0)[j]? with
  | none => exact ⟨by decide, by decide⟩
  | some a =>
    have := addrs_bd P 0 a (List.mem_of_getElem? e)
    show 0 ≤ a ∧ a < 32
    omega
theorem crossed_0 {a b : Int} (h1 : 0 ≤ a) (h2 : a < 32) (h3 : 0 ≤ b) (h4 : b < 32) : crossed a b = 0 := by
  unfold crossed
  rw [if_pos (by omega)]
theorem crossed_01 (a b : Int) : 0 ≤ crossed a b ∧ crossed a b ≤ 1 := by
  unfold crossed
  split <;> exact ⟨by decide, by decide⟩
theorem signs_at {P : Pg} {i : Nat} (h : i < P.length) : (signsOf P)[i]? = some (signOf P (addrs P 0) i) := by
  unfold signsOf
  rw [List.getElem?_map, List.getElem?_range h]
  rfl
theorem eq_eqS {a b : Str} : a = b → eqS a b = true := fun h => eqS_iff.mpr h
theorem inS_mem {d : Str} {l : List Str} : inS d l = true → d ∈ l := fun h => by
  obtain ⟨v, hv, e⟩ := List.any_eq_true.mp (show (l.map V.str).any (fun y => eqV y (.str d)) = true from h)
  obtain ⟨z, hz, rfl⟩ := List.mem_map.mp hv
  have : z = d := eq_of_beq (show (z == d) = true from e)
  exact this ▸ hz
theorem mem_inS {d : Str} {l : List Str} (h : d ∈ l) : inS d l = true := List.any_eq_true.mpr ⟨_, List.mem_map.mpr ⟨d, h, rfl⟩, by show (d == d) = true; exact beq_self_eq_true d⟩
theorem good_all {Q : Str → Prop} {d : Str} (h : d ∈ GOOD) (q : ∀ e ∈ GOOD, Q e) : Q d := q d h
theorem good_if {d : Str} (h : d ∈ GOOD) (hi : inS d IFS = true) : d ∈ MARKD ∧ d ≠ "at" ∧ d ≠ "go" ∧ d ≠ "data" ∧ d ≠ "wait" := by
  have : ∀ e ∈ GOOD, inS e IFS = true → e ∈ MARKD ∧ e ≠ "at" ∧ e ≠ "go" ∧ e ≠ "data" ∧ e ≠ "wait" := by decide +kernel
  exact this d h hi
theorem good_beat {d : Str} (h : d ∈ GOOD) : 2 ≤ beatC d ∧ beatC d ≤ 4 ∧ 0 ≤ lawB d ∧ beatC d + (if eqS d "at" = true then 1 else 0) ≤ lawB d ∧ eqS d "data" = false := by
  have : ∀ e ∈ GOOD, 2 ≤ beatC e ∧ beatC e ≤ 4 ∧ 0 ≤ lawB e ∧ beatC e + (if eqS e "at" = true then 1 else 0) ≤ lawB e ∧ eqS e "data" = false := by decide +kernel
  exact this d h
/-! least and most of what lies in 0..1 -/
theorem fold_min {l : List Int} : ∀ {n : Int}, l.foldl min n ≤ n ∧ (0 ≤ n → (∀ x ∈ l, 0 ≤ x) → 0 ≤ l.foldl min n) := by
  induction l with
  | nil => exact fun {n} => ⟨Int.le_refl _, fun h _ => h⟩
  | cons x l ih =>
    intro n
    obtain ⟨h1, h2⟩ := ih (n := min n x)
    exact ⟨Int.le_trans h1 (Int.min_le_left _ _), fun h h3 => h2 (by have := h3 x List.mem_cons_self; omega) fun y hy => h3 y (List.mem_cons_of_mem _ hy)⟩
theorem fold_max {l : List Int} : ∀ {n : Int}, n ≤ l.foldl max n ∧ (∀ x ∈ l, x ≤ l.foldl max n) ∧ (∀ b, n ≤ b → (∀ x ∈ l, x ≤ b) → l.foldl max n ≤ b) := by
  induction l with
  | nil => exact fun {n} => ⟨Int.le_refl _, (fun x h => nomatch h), (fun b h _ => h)⟩
  | cons x l ih =>
    intro n
    obtain ⟨h1, h2, h3⟩ := ih (n := max n x)
    refine ⟨Int.le_trans (Int.le_max_left _ _) h1, fun y hy => ?_, fun b hb hx => h3 b (by have := hx x List.mem_cons_self; omega) fun y hy => hx y (List.mem_cons_of_mem _ hy)⟩
    rcases List.mem_cons.mp hy with h | h
    · rw [h]; exact Int.le_trans (Int.le_max_right _ _) h1
    · exact h2 y h
theorem minmax {l : List Int} {lo hi : Int} (h1 : 0 ≤ lo) (h2 : lo ≤ hi) (h3 : hi < l.length) (h01 : ∀ x ∈ l, 0 ≤ x ∧ x ≤ 1) : 0 ≤ minL (cutI l lo hi) ∧ minL (cutI l lo hi) ≤ maxL (cutI l lo hi) ∧ maxL (cutI l lo hi) ≤ 1 := by
  obtain ⟨n, ns, e⟩ := cutI_cons h1 h2 h3
  have hm : ∀ x ∈ n :: ns, 0 ≤ x ∧ x ≤ 1 := fun x hx => by
    rw [← e] at hx
    exact h01 x (List.mem_of_mem_drop (List.mem_of_mem_take hx))
  have hn := hm n List.mem_cons_self
  rw [e]
  show 0 ≤ ns.foldl min n ∧ ns.foldl min n ≤ ns.foldl max n ∧ ns.foldl max n ≤ 1
  have a := fold_min (l := ns) (n := n)
  have b := fold_max (l := ns) (n := n)
  exact ⟨a.2 hn.1 fun x hx => (hm x (List.mem_cons_of_mem _ hx)).1, Int.le_trans a.1 b.1, b.2.2 1 hn.2 fun x hx => (hm x (List.mem_cons_of_mem _ hx)).2⟩
theorem max_mono {l : List Int} {lo hi : Int} (h1 : 0 ≤ lo) (h2 : lo ≤ hi) (h3 : hi ≤ 255) (hl : l.length = 256) : maxL (cutI l lo hi) ≤ maxL (cutI l 0 255) := by
  obtain ⟨n, ns, e⟩ := cutI_cons (l := l) h1 h2 (by omega)
  obtain ⟨m, ms, e2⟩ := cutI_cons (l := l) (lo := 0) (hi := 255) (by decide) (by decide) (by rw [hl]; decide)
  have hall : ∀ x ∈ l, x ∈ m :: ms := fun x hx => by
    rw [← e2]
    unfold cutI
    rw [show (0 : Int).toNat = 0 from rfl, List.drop_zero, List.take_of_length_le (by rw [hl]; decide)]
    exact hx
  have hsub : ∀ x ∈ n :: ns, x ∈ m :: ms := fun x hx => by
    rw [← e] at hx
    exact hall x (List.mem_of_mem_drop (List.mem_of_mem_take hx))
  rw [e, e2]
  show ns.foldl max n ≤ ms.foldl max m
  have b := fold_max (l := ms) (n := m)
  have le : ∀ x ∈ m :: ms, x ≤ ms.foldl max m := fun x hx => by
    rcases List.mem_cons.mp hx with h | h
    · rw [h]; exact b.1
    · exact b.2.1 x h
  exact (fold_max (l := ns) (n := n)).2.2 _ (le _ (hsub n List.mem_cons_self)) fun x hx => le _ (hsub x (List.mem_cons_of_mem _ hx))
section
variable {P : Pg} {n : Nat}
theorem Wf.len (W : Wf P n) : P.length ≤ 1000 := Nat.le_trans W.l14 (by decide)
theorem Wf.at (W : Wf P n) {i : Nat} (h : i < n) : ∃ r, P[i]? = some r := ⟨P[i]'(Nat.lt_of_lt_of_le h W.le), List.getElem?_eq_getElem _⟩
theorem Wf.markOk (W : Wf P n) {i : Nat} {r : Rw} (h : i < n) (hr : P[i]? = some r) (hm : r.d ∈ MARKD) : MarkOk P r := by
  obtain ⟨z, h1, h2, _⟩ := W.mark i r h hr hm
  refine ⟨z, h1, ?_⟩
  unfold tgt at h2
  rw [h1] at h2
  exact h2
theorem Wf.rowOk (W : Wf P n) {i : Nat} {r : Rw} (h : i < n) (hr : P[i]? = some r) : RowOk P (signsOf P) i r ∧ (inS r.d IFS = true → (signsOf P)[i]? = some (.one 0)) := by
  have hil : i < P.length := Nat.lt_of_lt_of_le h W.le
  have hs := signs_at hil
  rw [signOf_some hr] at hs
  have hif : inS r.d IFS = true → (signsOf P)[i]? = some (.one 0) := fun e => by
    rw [if_pos e] at hs
    have a := addr_small W.l14 (tgt P r)
    have b := addr_small W.l14 (i + 1)
    rw [crossed_0 a.1 a.2 b.1 b.2] at hs
    exact hs
  refine ⟨⟨hr, W.good i r h hr, W.markOk h hr, fun e => ⟨0, hif e, by decide, by decide⟩, fun e => ?_, fun e => W.setx i r h hr (eqS_iff.mp e)⟩, hif⟩
  have hn : ¬ inS r.d IFS = true := by rw [eqS_iff.mp e]; decide +kernel
  rw [if_neg hn, if_pos e] at hs
  refine ⟨_, hs, by rw [List.length_map, List.length_range], fun x hx => ?_⟩
  obtain ⟨m, _, rfl⟩ := List.mem_map.mp hx
  exact crossed_01 _ _
theorem Wf.next (W : Wf P n) {i : Nat} {r : Rw} (h : i < n) (hr : P[i]? = some r) : (r.d ≠ "go" → i + 1 < n) ∧ (eqS r.d "go" = true ∨ inS r.d IFS = true → tgt P r < n) := by
  refine ⟨W.noif i r h hr, fun e => ?_⟩
  have hm : r.d ∈ MARKD ∧ r.d ≠ "at" := by
    rcases e with e | e
    · rw [eqS_iff.mp e]; exact ⟨by decide +kernel, by decide +kernel⟩
    · have := good_if (W.good i r h hr) e
      exact ⟨this.1, this.2.1⟩
  obtain ⟨z, _, _, h3⟩ := W.mark i r h hr hm.1
  exact h3 hm.2
/-- what comes of a row, one by one -/
theorem Wf.come (W : Wf P n) {i : Nat} {r : Rw} (h : i < n) (hr : P[i]? = some r) {lo hi z : Int} {c : Cm} (hc : c ∈ comesOf P (signsOf P) i lo hi z) :
    (inS r.d IFS = true ∧ ∃ (b : Bool) (p : Int × Int), xGone r.d lo hi z b = some p ∧ c = ⟨if b = true then tgt P r else i + 1, p.1, p.2, z, if b = true then 3 else 2, if b = true then 3 else 2⟩) ∨
    (inS r.d IFS = false ∧ c = ⟨if eqS r.d "go" = true then tgt P r else i + 1, (xBehind r lo hi z).1, (xBehind r lo hi z).2.1, (xBehind r lo hi z).2.2, beatC r.d + (if eqS r.d "at" = true then minL (cutI (sAll (signsOf P)[i]?) lo hi) else 0), beatC r.d + (if eqS r.d "at" = true then maxL (cutI (sAll (signsOf P)[i]?) lo hi) else 0)⟩) := by
  cases e : inS r.d IFS with
  | true =>
    left
    refine ⟨rfl, ?_⟩
    rw [comes_if hr e ((W.rowOk h hr).2 e)] at hc
    obtain ⟨w, hw, hcw⟩ := List.mem_flatMap.mp hc
    unfold ifWays at hw
    have hpart : ∀ {w : Nat × Bool × Int}, c ∈ ifPart r.d lo hi z w → ∃ p, xGone r.d lo hi z w.2.1 = some p ∧ c = ⟨w.1, p.1, p.2, z, w.2.2, w.2.2⟩ := fun {w} h => by
      unfold ifPart at h
      cases e2 : xGone r.d lo hi z w.2.1 with
      | none => rw [e2] at h; cases h
      | some p =>
        rw [e2] at h
        exact ⟨p, rfl, List.mem_singleton.mp h⟩
    obtain ⟨p, hp, rfl⟩ := hpart hcw
    simp only [List.mem_cons, List.not_mem_nil, or_false] at hw
    rcases hw with rfl | rfl
    · exact ⟨false, p, hp, rfl⟩
    · exact ⟨true, p, hp, rfl⟩
  | false =>
    right
    rw [comes_other hr (by rw [e]; exact Bool.false_ne_true)] at hc
    exact ⟨rfl, List.mem_singleton.mp hc⟩
theorem Wf.comeRow (W : Wf P n) {i : Nat} {r : Rw} (h : i < n) (hr : P[i]? = some r) {lo hi z : Int} {c : Cm} (hc : c ∈ comesOf P (signsOf P) i lo hi z) : c.r < n ∧ c.r ∈ nextRows P i := by
  obtain ⟨n1, n2⟩ := W.next h hr
  have hg := W.good i r h hr
  obtain ⟨_, _, _, _, hda⟩ := good_beat hg
  rw [nextRows_some hr, if_neg (by rw [hda]; exact Bool.false_ne_true)]
  rcases W.come h hr hc with ⟨hif, b, p, _, rfl⟩ | ⟨hif, rfl⟩
  · have hgo : ¬ eqS r.d "go" = true := fun e => (good_if hg hif).2.2.1 (eqS_iff.mp e)
    rw [if_neg hgo, if_pos hif]
    cases b with
    | true => exact ⟨n2 (.inr hif), List.mem_cons_of_mem _ List.mem_cons_self⟩
    | false => exact ⟨n1 fun e => hgo (eqS_iff.mpr e), List.mem_cons_self⟩
  · by_cases hgo : eqS r.d "go" = true
    · rw [if_pos hgo]
      simp only [if_pos hgo]
      exact ⟨n2 (.inl hgo), List.mem_cons_self⟩
    · rw [if_neg hgo, hif, if_neg Bool.false_ne_true]
      simp only [if_neg hgo]
      exact ⟨n1 fun e => hgo (eqS_iff.mpr e), List.mem_cons_self⟩
theorem Wf.comeBeat (W : Wf P n) {i : Nat} {r : Rw} (h : i < n) (hr : P[i]? = some r) {lo hi z : Int} {c : Cm} (R : Rng lo hi z) (hc : c ∈ comesOf P (signsOf P) i lo hi z) : 0 ≤ c.ls ∧ c.ls ≤ c.ms ∧ 2 ≤ c.ms ∧ c.ms ≤ 5 := by
  obtain ⟨b1, b2, _, _, _⟩ := good_beat (W.good i r h hr)
  rcases W.come h hr hc with ⟨hif, b, p, _, rfl⟩ | ⟨hif, rfl⟩
  · cases b with
    | true => exact ⟨(by show (0 : Int) ≤ 3; decide), (by show (3 : Int) ≤ 3; decide), (by show (2 : Int) ≤ 3; decide), (by show (3 : Int) ≤ 5; decide)⟩
    | false => exact ⟨(by show (0 : Int) ≤ 2; decide), (by show (2 : Int) ≤ 2; decide), (by show (2 : Int) ≤ 2; decide), (by show (2 : Int) ≤ 5; decide)⟩
  · by_cases ha : eqS r.d "at" = true
    · obtain ⟨l, hS, hl, h01⟩ := (W.rowOk h hr).1.ats ha
      have hm := minmax (l := l) R.l0 R.lh (by rw [hl]; have := R.h255; omega) h01
      simp only [if_pos ha, hS]
      show 0 ≤ beatC r.d + minL (cutI l lo hi) ∧ beatC r.d + minL (cutI l lo hi) ≤ beatC r.d + maxL (cutI l lo hi) ∧ 2 ≤ beatC r.d + maxL (cutI l lo hi) ∧ beatC r.d + maxL (cutI l lo hi) ≤ 5
      omega
    · simp only [if_neg ha]
      omega
/-- the law's own beats are no fewer -/
theorem Wf.comeLaw (W : Wf P n) {i : Nat} {r : Rw} (h : i < n) (hr : P[i]? = some r) {lo hi z : Int} {c : Cm} (R : Rng lo hi z) (hc : c ∈ comesOf P (signsOf P) i lo hi z) : ∃ q ∈ lawNx P i, q.1 = c.r ∧ c.ms ≤ q.2 := by
  have hg := W.good i r h hr
  obtain ⟨b1, b2, _, b4, _⟩ := good_beat hg
  have e0 : lawNx P i = lawNext P i r := by unfold lawNx; rw [hr]
  rw [e0]
  unfold lawNext
  rcases W.come h hr hc with ⟨hif, b, p, _, rfl⟩ | ⟨hif, rfl⟩
  · have hgo : ¬ eqS r.d "go" = true := fun e => (good_if hg hif).2.2.1 (eqS_iff.mp e)
    rw [if_neg hgo, if_pos hif]
    cases b with
    | true => exact ⟨_, List.mem_cons_of_mem _ List.mem_cons_self, rfl, (by show (3 : Int) ≤ 3; decide)⟩
    | false => exact ⟨_, List.mem_cons_self, rfl, (by show (2 : Int) ≤ 2; decide)⟩
  · by_cases hgo : eqS r.d "go" = true
    · rw [if_pos hgo]
      have hna : ¬ eqS r.d "at" = true := by rw [eqS_iff.mp hgo]; decide +kernel
      have hb : beatC r.d = 3 := by rw [eqS_iff.mp hgo]; decide +kernel
      simp only [if_pos hgo, if_neg hna]
      exact ⟨_, List.mem_cons_self, rfl, by rw [hb]; show (3 : Int) + 0 ≤ 3; decide⟩
    · rw [if_neg hgo, hif, if_neg Bool.false_ne_true]
      simp only [if_neg hgo]
      refine ⟨_, List.mem_cons_self, rfl, ?_⟩
      by_cases ha : eqS r.d "at" = true
      · obtain ⟨l, hS, hl, h01⟩ := (W.rowOk h hr).1.ats ha
        have hm := minmax (l := l) R.l0 R.lh (by rw [hl]; have := R.h255; omega) h01
        rw [if_pos ha] at b4 ⊢
        rw [hS]
        show beatC r.d + maxL (cutI l lo hi) ≤ lawB r.d
        omega
      · rw [if_neg ha] at b4 ⊢
        exact b4
/-- with x anywhere a row's most is no less -/
theorem Wf.comeMost (W : Wf P n) {i : Nat} {r : Rw} (h : i < n) (hr : P[i]? = some r) {lo hi z : Int} {c : Cm} (R : Rng lo hi z) (hc : c ∈ comesOf P (signsOf P) i lo hi z) : ∃ c' ∈ comesOf P (signsOf P) i 0 255 0, c'.r = c.r ∧ c.ms ≤ c'.ms := by
  rcases W.come h hr hc with ⟨hif, b, p, _, rfl⟩ | ⟨hif, rfl⟩
  · rw [comes_if hr hif ((W.rowOk h hr).2 hif)]
    have hx : ∀ b, xGone r.d 0 255 0 b = some (0, 255) := fun b => by
      unfold xGone
      split
      · rfl
      · split <;> rfl
    refine ⟨⟨if b = true then tgt P r else i + 1, 0, 255, 0, if b = true then 3 else 2, if b = true then 3 else 2⟩, List.mem_flatMap.mpr ⟨(if b = true then tgt P r else i + 1, b, if b = true then 3 else 2), ?_, ?_⟩, rfl, Int.le_refl _⟩
    · unfold ifWays
      cases b with
      | true => exact List.mem_cons_of_mem _ List.mem_cons_self
      | false => exact List.mem_cons_self
    · unfold ifPart
      simp only [hx]
      exact List.mem_singleton.mpr rfl
  · rw [comes_other hr (by rw [hif]; exact Bool.false_ne_true)]
    refine ⟨_, List.mem_singleton.mpr rfl, rfl, ?_⟩
    by_cases ha : eqS r.d "at" = true
    · obtain ⟨l, hS, hl, h01⟩ := (W.rowOk h hr).1.ats ha
      simp only [if_pos ha, hS]
      show beatC r.d + maxL (cutI l lo hi) ≤ beatC r.d + maxL (cutI l 0 255)
      have := max_mono R.l0 R.lh R.h255 hl
      omega
    · simp only [if_neg ha]
      exact Int.le_refl _
end

/-! ### the keys there may be -/
def vals (P : Pg) : List Int := 0 :: (P.map fun r => intV r.v).filter fun x => decide (0 ≤ x) && decide (x ≤ 255)
def Urow (P : Pg) (i : Nat) : List Ky := (vals P).flatMap fun x => [⟨i, x, x, 0⟩, ⟨i, x, x, 1⟩]
def Uall (P : Pg) (n : Nat) : List Ky := (List.range n).flatMap (Urow P)
theorem flat_len {α β : Type} {f : α → List β} {c : Nat} : ∀ {l : List α}, (∀ x ∈ l, (f x).length ≤ c) → (l.flatMap f).length ≤ l.length * c
  | [], _ => Nat.le_of_eq (by simp)
  | x :: l, h => by
    have h1 := h x List.mem_cons_self
    have h2 := flat_len (f := f) (l := l) fun y hy => h y (List.mem_cons_of_mem _ hy)
    rw [List.flatMap_cons, List.length_append, List.length_cons, Nat.succ_mul]
    omega
theorem vals_len (P : Pg) : (vals P).length ≤ P.length + 1 := by
  unfold vals
  rw [List.length_cons]
  have := List.length_filter_le (fun x => decide (0 ≤ x) && decide (x ≤ 255)) (P.map fun r => intV r.v)
  rw [List.length_map] at this
  omega
theorem vals_bd {P : Pg} {x : Int} (h : x ∈ vals P) : 0 ≤ x ∧ x ≤ 255 := by
  rcases List.mem_cons.mp (show x ∈ 0 :: _ from h) with h | h
  · rw [h]; exact ⟨by decide, by decide⟩
  · have := (List.mem_filter.mp h).2
    simp only [Bool.and_eq_true, decide_eq_true_eq] at this
    exact this
theorem row_len {P : Pg} (h : P.length ≤ 14) (i : Nat) : (Urow P i).length ≤ 30 := by
  have h1 := flat_len (f := fun x => [(⟨i, x, x, 0⟩ : Ky), ⟨i, x, x, 1⟩]) (c := 2) (l := vals P) fun _ _ => Nat.le_refl _
  have h2 := vals_len P
  unfold Urow
  omega
theorem row_mem {P : Pg} {i : Nat} {k : Ky} : k ∈ Urow P i ↔ k.r = i ∧ k.lo ∈ vals P ∧ k.hi = k.lo ∧ (k.z = 0 ∨ k.z = 1) := by
  unfold Urow
  constructor
  · intro h
    obtain ⟨x, hx, h⟩ := List.mem_flatMap.mp h
    simp only [List.mem_cons, List.not_mem_nil, or_false] at h
    rcases h with rfl | rfl
    · exact ⟨rfl, hx, rfl, .inl rfl⟩
    · exact ⟨rfl, hx, rfl, .inr rfl⟩
  · rintro ⟨h1, h2, h3, h4⟩
    obtain ⟨r, lo, hi, z⟩ := k
    simp only at h1 h2 h3 h4
    subst h1 h3
    refine List.mem_flatMap.mpr ⟨_, h2, ?_⟩
    rcases h4 with rfl | rfl
    · exact List.mem_cons_self
    · exact List.mem_cons_of_mem _ List.mem_cons_self
theorem all_mem {P : Pg} {n : Nat} {k : Ky} : k ∈ Uall P n ↔ k.r < n ∧ k.lo ∈ vals P ∧ k.hi = k.lo ∧ (k.z = 0 ∨ k.z = 1) := by
  unfold Uall
  constructor
  · intro h
    obtain ⟨i, hi, h⟩ := List.mem_flatMap.mp h
    obtain ⟨h1, h2⟩ := row_mem.mp h
    exact ⟨h1 ▸ List.mem_range.mp hi, h2⟩
  · rintro ⟨h1, h2⟩
    exact List.mem_flatMap.mpr ⟨k.r, List.mem_range.mpr h1, row_mem.mpr ⟨rfl, h2⟩⟩
theorem where_in {P : Pg} {lo z : Int} {b : Bool} {p : Int × Int} (h : xWhere lo lo z b = some p) (hl : lo ∈ vals P) : p.1 ∈ vals P ∧ p.2 = p.1 := by
  unfold xWhere at h
  split at h
  · cases h; exact ⟨hl, rfl⟩
  · split at h
    · cases h; exact ⟨List.mem_cons_self, rfl⟩
    · split at h
      · rename_i hh
        have h0 : 0 < lo := by
          simp only [Bool.and_eq_true, decide_eq_true_eq] at hh
          exact hh.2
        have e : (if lo > 1 then lo else 1) = lo := by split <;> omega
        rw [e] at h
        cases h
        exact ⟨hl, rfl⟩
      · cases h
theorem gone_in {P : Pg} {d : Str} {lo z : Int} {b : Bool} {p : Int × Int} (h : xGone d lo lo z b = some p) (hl : lo ∈ vals P) : p.1 ∈ vals P ∧ p.2 = p.1 := by
  unfold xGone at h
  split at h
  · exact where_in h hl
  · split at h
    · exact where_in h hl
    · cases h; exact ⟨hl, rfl⟩
section
variable {P : Pg} {n : Nat}
theorem Wf.fl (W : Wf P n) : Fl P (signsOf P) (Uall P n) := by
  refine ⟨all_mem.mpr ⟨W.n1, List.mem_cons_self, rfl, .inr rfl⟩, fun k hk => ?_, fun k hk c hc => ?_, ?_, W.len⟩
  · obtain ⟨h1, h2, h3, h4⟩ := all_mem.mp hk
    obtain ⟨b1, b2⟩ := vals_bd h2
    obtain ⟨r, hr⟩ := W.at h1
    exact ⟨⟨b1, by omega, by omega, h4⟩, r, (W.rowOk h1 hr).1⟩
  · obtain ⟨h1, h2, h3, h4⟩ := all_mem.mp hk
    obtain ⟨b1, b2⟩ := vals_bd h2
    obtain ⟨r, hr⟩ := W.at h1
    have R : Rng k.lo k.hi k.z := ⟨b1, by omega, by omega, h4⟩
    refine ⟨?_, W.comeBeat h1 hr R hc⟩
    have hrow := (W.comeRow h1 hr hc).1
    rw [h3] at hc
    refine all_mem.mpr ⟨hrow, ?_⟩
    rcases W.come h1 hr hc with ⟨hif, b, p, hp, rfl⟩ | ⟨hif, rfl⟩
    · obtain ⟨q1, q2⟩ := gone_in hp h2
      exact ⟨q1, q2, h4⟩
    · show (xBehind r k.lo k.lo k.z).1 ∈ vals P ∧ (xBehind r k.lo k.lo k.z).2.1 = (xBehind r k.lo k.lo k.z).1 ∧ ((xBehind r k.lo k.lo k.z).2.2 = 0 ∨ (xBehind r k.lo k.lo k.z).2.2 = 1)
      unfold xBehind
      by_cases e : eqS r.d "setx" = true
      · rw [if_pos e]
        obtain ⟨x, hx, x0, x1⟩ := W.setx k.r r h1 hr (eqS_iff.mp e)
        refine ⟨List.mem_cons_of_mem _ (List.mem_filter.mpr ⟨List.mem_map.mpr ⟨r, List.mem_of_getElem? hr, rfl⟩, ?_⟩), rfl, .inr rfl⟩
        rw [hx]
        show (decide (0 ≤ x) && decide (x ≤ 255)) = true
        rw [decide_eq_true x0, decide_eq_true x1]
        rfl
      · rw [if_neg e]
        by_cases e2 : eqS r.d "toa" = true
        · rw [if_pos e2]; exact ⟨h2, rfl, .inr rfl⟩
        · rw [if_neg e2]
          refine ⟨h2, rfl, ?_⟩
          show k.z * (if inS r.d SAME = true then 1 else 0) = 0 ∨ k.z * (if inS r.d SAME = true then 1 else 0) = 1
          split <;> omega
  · have h1 := flat_len (f := Urow P) (c := 30) (l := List.range n) fun i _ => row_len W.l14 i
    rw [List.length_range] at h1
    have := W.n12
    unfold Uall
    omega
theorem Wf.signsOk (W : Wf P n) : SignsOk P := fun i r hr => by
  by_cases h : i < n
  · have hg := W.good i r h hr
    refine ⟨fun e => ?_, fun e => W.markOk h hr ?_⟩
    · have := good_if hg e
      refine ⟨W.markOk h hr this.1, ?_⟩
      have h2 := W.noif i r h hr this.2.2.1
      have := W.le
      omega
    · rw [eqS_iff.mp e]; decide +kernel
  · have hd := W.data i r (Nat.le_of_not_lt h) hr
    refine ⟨fun e => ?_, fun e => ?_⟩
    · rw [hd] at e
      exact absurd e (by decide +kernel)
    · rw [hd] at e
      exact absurd e (by decide +kernel)
theorem Wf.toGood (W : Wf P n) : Good P (Uall P n) := by
  refine ⟨W.len, ?_, W.signsOk, W.fl, fun k hk => ?_, fun i => ⟨Urow P i, ?_, fun k hk e => ?_⟩⟩
  · have := (sum_bd P).2
    have := W.l14
    omega
  · have := (all_mem.mp hk).1
    have := W.le
    omega
  · have := row_len W.l14 i
    omega
  · obtain ⟨h1, h2⟩ := all_mem.mp hk
    exact row_mem.mpr ⟨e, h2⟩
theorem Wf.lawOk (W : Wf P n) : LawOk P n := by
  refine ⟨W.len, W.n1, W.n12, fun i hi => ?_⟩
  obtain ⟨r, hr⟩ := W.at hi
  have hg := W.good i r hi hr
  obtain ⟨n1, n2⟩ := W.next hi hr
  refine ⟨r, hr, hg, fun e => W.markOk hi hr ?_, fun q hq => ?_⟩
  · rcases e with e | e
    · rw [eqS_iff.mp e]; decide +kernel
    · exact (good_if hg e).1
  · unfold lawNext at hq
    by_cases e : eqS r.d "go" = true
    · rw [if_pos e] at hq
      rw [List.mem_singleton.mp hq]
      exact ⟨n2 (.inl e), (by show (0 : Int) ≤ 3; decide)⟩
    · rw [if_neg e] at hq
      have n1 := n1 fun z => e (eqS_iff.mpr z)
      by_cases e2 : inS r.d IFS = true
      · rw [if_pos e2] at hq
        simp only [List.mem_cons, List.not_mem_nil, or_false] at hq
        rcases hq with rfl | rfl
        · exact ⟨n1, (by show (0 : Int) ≤ 2; decide)⟩
        · exact ⟨n2 (.inr e2), (by show (0 : Int) ≤ 3; decide)⟩
      · rw [if_neg e2] at hq
        rw [List.mem_singleton.mp hq]
        exact ⟨n1, (good_beat hg).2.2.1⟩
end
/-! ### the program as it is drawn, tamed, with waits -/
theorem ix_map {P : Pg} {g : Rw → Rw} (h : ∀ r, (g r).m = r.m) (z : Str) : ixOf (P.map g) z = ixOf P z := by
  unfold ixOf
  rw [List.map_map]
  have : ((fun r => r.m) ∘ g) = fun r : Rw => r.m := by
    funext r
    exact h r
  rw [this]
theorem tame_m (r : Rw) : (tameR r).m = r.m := by unfold tameR; split <;> rfl
theorem wait_m (r : Rw) : (waitR r).m = r.m := by unfold waitR; split <;> rfl
theorem map_at {P : Pg} {g : Rw → Rw} {i : Nat} {r : Rw} (h : (P.map g)[i]? = some r) : ∃ q, P[i]? = some q ∧ r = g q := by
  rw [List.getElem?_map] at h
  obtain ⟨q, h1, h2⟩ := Option.map_eq_some_iff.mp h
  exact ⟨q, h1, h2.symm⟩
theorem deed_at {a : Nat} (h : a < 30) : (inS (DEEDS.getD a "") TAME = true ∨ DEEDS.getD a "" ∈ GOOD) ∧ (DEEDS.getD a "" ∈ MARKD → 22 ≤ a ∧ a ≤ 27) ∧ (a = 27 → DEEDS.getD a "" = "at") ∧ (DEEDS.getD a "" = "setx" → a = 2) ∧ (a = 22 → DEEDS.getD a "" = "go") := by
  have : ∀ a, a < 30 → (inS (DEEDS.getD a "") TAME = true ∨ DEEDS.getD a "" ∈ GOOD) ∧ (DEEDS.getD a "" ∈ MARKD → 22 ≤ a ∧ a ≤ 27) ∧ (a = 27 → DEEDS.getD a "" = "at") ∧ (DEEDS.getD a "" = "setx" → a = 2) ∧ (a = 22 → DEEDS.getD a "" = "go") := by decide +kernel
  exact this a h
theorem FW.wf {P : Pg} {n : Nat} (F : FW P n) : Wf (P.map tameR) n := by
  have len : (P.map tameR).length = P.length := List.length_map ..
  have stay : ∀ q : Rw, (tameR q).d ≠ "rest" → tameR q = q := fun q h => by
    unfold tameR at h ⊢
    split
    · rename_i e
      rw [if_pos e] at h
      exact absurd rfl h
    · rfl
  refine ⟨by have := F.n2; omega, F.n12, by rw [len]; exact F.le, by rw [len]; exact F.l14, fun i r hi hr => ?_, fun i r hi hr => ?_, fun r hr => ?_, fun i r hi hr hm => ?_, fun i r hi hr hs => ?_, fun i r hi hr hg => ?_⟩
  · obtain ⟨q, hq, rfl⟩ := map_at hr
    obtain ⟨a, ha, hd, _⟩ := F.row i q hi hq
    rcases (deed_at ha).1 with h | h
    · unfold tameR
      rw [if_pos (by rw [hd]; exact h)]
      show ("rest" : Str) ∈ GOOD
      decide +kernel
    · unfold tameR
      split
      · show ("rest" : Str) ∈ GOOD
        decide +kernel
      · rw [hd]; exact h
  · obtain ⟨q, hq, rfl⟩ := map_at hr
    have hd := F.data i q hi hq
    unfold tameR
    rw [if_neg (by rw [hd]; decide +kernel)]
    exact hd
  · obtain ⟨q, hq, rfl⟩ := map_at hr
    have h2 := F.n2
    obtain ⟨a, ha, hd, _, _, _, h22⟩ := F.row (n - 1) q (by omega) hq
    have hgo : q.d = "go" := by rw [hd]; exact (deed_at ha).2.2.2.2 (h22 (by omega))
    unfold tameR
    rw [if_neg (by rw [hgo]; decide +kernel)]
    exact hgo
  · obtain ⟨q, hq, rfl⟩ := map_at hr
    have hst : tameR q = q := stay q fun e => by rw [e] at hm; exact absurd hm (by decide +kernel)
    rw [hst] at hm ⊢
    obtain ⟨a, ha, hd, v27, v22, _⟩ := F.row i q hi hq
    rw [hd] at hm
    obtain ⟨a1, a2⟩ := (deed_at ha).2.1 hm
    unfold tgt
    by_cases h27 : a = 27
    · obtain ⟨z, hz, hl⟩ := v27 h27
      refine ⟨z, hz, ?_, fun h => absurd (hd.trans ((deed_at ha).2.2.1 h27)) h⟩
      rw [hz, ix_map tame_m, len]
      exact hl
    · obtain ⟨z, hz, hl⟩ := v22 a1 (by omega)
      have hlt : ixOf (P.map tameR) (strV q.v) < n := by
        rw [hz, ix_map tame_m]
        exact hl
      exact ⟨z, hz, by rw [len]; exact Nat.lt_of_lt_of_le hlt F.le, fun _ => hlt⟩
  · obtain ⟨q, hq, rfl⟩ := map_at hr
    have hst : tameR q = q := stay q fun e => by rw [e] at hs; exact absurd hs (by decide +kernel)
    rw [hst] at hs ⊢
    obtain ⟨a, ha, hd, _, _, v2, _⟩ := F.row i q hi hq
    rw [hd] at hs
    exact v2 ((deed_at ha).2.2.2.1 hs)
  · obtain ⟨q, hq, rfl⟩ := map_at hr
    obtain ⟨a, ha, hd, _, _, _, h22⟩ := F.row i q hi hq
    refine Nat.lt_of_le_of_ne hi fun e => hg ?_
    have hgo : q.d = "go" := by rw [hd]; exact (deed_at ha).2.2.2.2 (h22 e)
    unfold tameR
    rw [if_neg (by rw [hgo]; decide +kernel)]
    exact hgo
theorem Wf.waits {P : Pg} {n : Nat} (W : Wf P n) : Wf (P.map waitR) n := by
  have len : (P.map waitR).length = P.length := List.length_map ..
  have stay : ∀ q : Rw, (waitR q).d ≠ "wait" → waitR q = q := fun q h => by
    unfold waitR at h ⊢
    split
    · rename_i e
      rw [if_pos e] at h
      exact absurd rfl h
    · rfl
  refine ⟨W.n1, W.n12, by rw [len]; exact W.le, by rw [len]; exact W.l14, fun i r hi hr => ?_, fun i r hi hr => ?_, fun r hr => ?_, fun i r hi hr hm => ?_, fun i r hi hr hs => ?_, fun i r hi hr hg => ?_⟩
  · obtain ⟨q, hq, rfl⟩ := map_at hr
    unfold waitR
    split
    · show ("wait" : Str) ∈ GOOD
      decide +kernel
    · exact W.good i q hi hq
  · obtain ⟨q, hq, rfl⟩ := map_at hr
    have hd := W.data i q hi hq
    unfold waitR
    rw [if_neg (by rw [hd]; decide +kernel)]
    exact hd
  · obtain ⟨q, hq, rfl⟩ := map_at hr
    have hgo := W.last q hq
    unfold waitR
    rw [if_neg (by rw [hgo]; decide +kernel)]
    exact hgo
  · obtain ⟨q, hq, rfl⟩ := map_at hr
    have hst : waitR q = q := stay q fun e => by rw [e] at hm; exact absurd hm (by decide +kernel)
    rw [hst] at hm ⊢
    obtain ⟨z, h1, h2, h3⟩ := W.mark i q hi hq hm
    have e : tgt (P.map waitR) q = tgt P q := by
      unfold tgt
      rw [ix_map wait_m]
    exact ⟨z, h1, by rw [e, len]; exact h2, by rw [e]; exact h3⟩
  · obtain ⟨q, hq, rfl⟩ := map_at hr
    have hst : waitR q = q := stay q fun e => by rw [e] at hs; exact absurd hs (by decide +kernel)
    rw [hst] at hs ⊢
    exact W.setx i q hi hq hs
  · obtain ⟨q, hq, rfl⟩ := map_at hr
    refine W.noif i q hi hq fun hgo => hg ?_
    unfold waitR
    rw [if_neg (by rw [hgo]; decide +kernel)]
    exact hgo

/-! ### late: the way is a flow, and the law's own search finds it -/
structure LF (P : Pg) (S : List Sg) (l : Int) (T : List Nat) (r : Nat) : Prop where
  last : T[T.length - 1]? = some r
  pos : 0 < T.length
  rows : ∀ x ∈ T, x < P.length
  step : ∀ (j i o : Nat), T[j]? = some i → T[j + 1]? = some o → StepOk P S i o
  begin_ : ∃ i, T[0]? = some i ∧ (i = 0 ∨ waitAt P (i - 1) = true)
  sum : ∀ ms : List Int, ms.length + 1 = T.length → (∀ (j i o : Nat) (m : Int), T[j]? = some i → T[j + 1]? = some o → ms[j]? = some m → MostOk P S i o m) → l ≤ ms.sum
theorem LF.one {P : Pg} {S : List Sg} {i : Nat} (h : i < P.length) (hb : i = 0 ∨ waitAt P (i - 1) = true) : LF P S 0 [i] i := by
  refine ⟨rfl, Nat.one_pos, fun x hx => by rw [List.mem_singleton.mp hx]; exact h, fun j i o _ h2 => by simp at h2, ⟨i, rfl, hb⟩, fun ms hm _ => ?_⟩
  have : ms = [] := List.eq_nil_of_length_eq_zero (by rw [List.length_singleton] at hm; omega)
  rw [this]
  exact Int.le_refl _
theorem LF.snoc {P : Pg} {S : List Sg} {l : Int} {T : List Nat} {r o : Nat} {b : Int} (h : LF P S l T r) (ho : o < P.length) (hs : StepOk P S r o) (hb : ∀ m, MostOk P S r o m → b ≤ m) : LF P S (l + b) (T ++ [o]) o := by
  have hp := h.pos
  have hl := h.last
  refine ⟨?_, by rw [List.length_append]; omega, fun x hx => ?_, fun j i q h1 h2 => ?_, ?_, fun ms hm hall => ?_⟩
  · rw [List.length_append, List.length_singleton, Nat.add_sub_cancel, List.getElem?_append_right (Nat.le_refl _), Nat.sub_self]
    rfl
  · rcases List.mem_append.mp hx with hx | hx
    · exact h.rows x hx
    · rw [List.mem_singleton.mp hx]; exact ho
  · have hj : j + 1 < T.length + 1 := by
      have := (List.getElem?_eq_some_iff.mp h2).1
      rw [List.length_append, List.length_singleton] at this
      exact this
    rw [List.getElem?_append_left (by omega)] at h1
    by_cases hj2 : j + 1 < T.length
    · rw [List.getElem?_append_left hj2] at h2
      exact h.step j i q h1 h2
    · have e : j + 1 = T.length := by omega
      rw [e, List.getElem?_append_right (Nat.le_refl _), Nat.sub_self] at h2
      cases h2
      rw [show j = T.length - 1 by omega, hl] at h1
      cases h1
      exact hs
  · obtain ⟨i, h1, h2⟩ := h.begin_
    exact ⟨i, by rw [List.getElem?_append_left hp]; exact h1, h2⟩
  · rw [List.length_append, List.length_singleton] at hm
    have hml : ms.length = T.length := by omega
    obtain ⟨m, hlast⟩ := last_some (l := ms) (by omega)
    have e := drop_last_eq hlast
    have hdl : ms.dropLast.length = T.length - 1 := by rw [List.length_dropLast, hml]
    have h1 := h.sum ms.dropLast (by omega) fun j i q m' a1 a2 a3 => by
      have hjl : j + 1 < T.length := (List.getElem?_eq_some_iff.mp a2).1
      refine hall j i q m' (by rw [List.getElem?_append_left (by omega)]; exact a1) (by rw [List.getElem?_append_left hjl]; exact a2) ?_
      rw [e, List.getElem?_append_left (by omega)]
      exact a3
    have h2 : b ≤ m := hb m (hall (T.length - 1) r o m (by rw [List.getElem?_append_left (by omega)]; exact hl) (by rw [show T.length - 1 + 1 = T.length by omega, List.getElem?_append_right (Nat.le_refl _), Nat.sub_self]; rfl) (by rw [← hml]; exact hlast))
    rw [e, List.sum_append, List.sum_cons, List.sum_nil]
    omega
section
variable {P : Pg} {n : Nat}
theorem Wf.wayF (W : Wf P n) {l : Int} {v : List Nat} (h : Way P (signsOf P) l v) : ∃ r v', v = r :: v' ∧ r < n ∧ LF P (signsOf P) l v.reverse r := by
  have hle := W.le
  induction h with
  | zero => exact ⟨0, [], rfl, W.n1, LF.one (Nat.lt_of_lt_of_le W.n1 W.le) (.inl rfl)⟩
  | @wait l r v lo hi z c R h1 RO Rn hc hw ih =>
    obtain ⟨r', v', e, hr, _⟩ := ih
    cases e
    obtain ⟨c1, c2⟩ := W.comeRow hr RO.at_ hc
    refine ⟨c.r, [], rfl, c1, LF.one (by omega) (.inr ?_)⟩
    have hd : R.d = "wait" := eqS_iff.mp ((wait_eq RO.at_).symm.trans hw)
    rcases W.come hr RO.at_ hc with ⟨hif, _⟩ | ⟨_, rfl⟩
    · rw [hd] at hif
      exact absurd hif (by decide +kernel)
    · have hgo : ¬ eqS R.d "go" = true := by rw [hd]; decide +kernel
      simp only [if_neg hgo, Nat.add_sub_cancel]
      exact hw
  | @step l r v lo hi z c R h1 RO Rn hc hw h2 ih =>
    obtain ⟨r', v', e, hr, hL⟩ := ih
    cases e
    obtain ⟨c1, c2⟩ := W.comeRow hr RO.at_ hc
    obtain ⟨c', hc', e1, e2⟩ := W.comeMost hr RO.at_ Rn hc
    refine ⟨c.r, _, rfl, c1, ?_⟩
    rw [List.reverse_cons]
    exact hL.snoc (by omega) ⟨⟨R, RO⟩, hw, c2, c', hc', e1⟩ fun m hm => Int.le_trans e2 (hm c' hc' e1)
theorem Wf.late (W : Wf P n) {rows : List Nat} (h : LateOk P (signsOf P) rows) : LateR P (signsOf P) rows := by
  obtain ⟨l, v, hw, h30, h35, rfl⟩ := h
  obtain ⟨r, v', e, hr, L⟩ := W.wayF hw
  have hlen := hw.len
  have hrl : v.reverse.length = v.length := List.length_reverse
  refine ⟨⟨L.rows, L.step⟩, ?_, by rw [hrl]; omega, L.begin_, fun ms hm hall => ?_⟩
  · refine Nat.le_of_not_lt fun hlt => ?_
    have hp := L.pos
    have := L.sum [] (by show 0 + 1 = _; omega) fun j i o m _ _ h => nomatch h
    rw [List.sum_nil] at this
    omega
  · have := L.sum ms hm hall
    omega
theorem Wf.wayC (W : Wf P n) {F : List (Nat × Int)} (C : Closed P F) {l : Int} {v : List Nat} (h : Way P (signsOf P) l v) : ∃ r v', v = r :: v' ∧ r < n ∧ ∃ b, l ≤ b ∧ (r, b) ∈ F := by
  induction h with
  | zero => exact ⟨0, [], rfl, W.n1, 0, Int.le_refl _, C.first⟩
  | @wait l r v lo hi z c R h1 RO Rn hc hw ih =>
    obtain ⟨r', v', e, hr, b, hb, hF⟩ := ih
    cases e
    obtain ⟨q, hq, q1, q2⟩ := W.comeLaw hr RO.at_ Rn hc
    have := C.step _ hF q hq
    unfold nx at this
    rw [q1, if_pos hw, Int.mul_zero] at this
    exact ⟨c.r, [], rfl, (W.comeRow hr RO.at_ hc).1, 0, Int.le_refl _, this⟩
  | @step l r v lo hi z c R h1 RO Rn hc hw h2 ih =>
    obtain ⟨r', v', e, hr, b, hb, hF⟩ := ih
    cases e
    obtain ⟨q, hq, q1, q2⟩ := W.comeLaw hr RO.at_ Rn hc
    have := C.step _ hF q hq
    unfold nx at this
    rw [q1, if_neg (by rw [hw]; exact Bool.false_ne_true), Int.mul_one] at this
    exact ⟨c.r, _, rfl, (W.comeRow hr RO.at_ hc).1, b + q.2, by omega, this⟩
theorem Wf.notClosed (W : Wf P n) {rows : List Nat} (h : LateOk P (signsOf P) rows) {F : List (Nat × Int)} (C : Closed P F) : False := by
  obtain ⟨l, v, hw, h30, h35, _⟩ := h
  obtain ⟨r, v', _, _, b, hb, hF⟩ := W.wayC C hw
  have := C.most _ hF
  have : b ≤ 30 := this
  omega
end
/-! ### kept: the paper is right -/
theorem cell_inj {i : Nat} {p q : Ky × Cl} (hp : p.1.r = i) (hq : q.1.r = i) (h : cell5 p = cell5 q) : p.1 = q.1 := by
  obtain ⟨⟨r, lo, hi, z⟩, c⟩ := p
  obtain ⟨⟨r', lo', hi', z'⟩, c'⟩ := q
  unfold cell5 at h
  simp only [List.cons.injEq, and_true] at h
  obtain ⟨h1, h2, h3, _⟩ := h
  simp only at hp hq
  subst hp hq h1 h2 h3
  rfl
theorem rows_nodup {C : List (Ky × Cl)} (nd : (C.map (·.1)).Nodup) (i : Nat) : (rowsOf C i).Nodup := by
  induction C with
  | nil => exact List.nodup_nil
  | cons p C ih =>
    obtain ⟨n1, n2⟩ := List.nodup_cons.mp (show (p.1 :: C.map (·.1)).Nodup from nd)
    have ih := ih n2
    unfold rowsOf at *
    by_cases h : p.1.r = i
    · rw [List.filter_cons_of_pos (by simp [h]), List.map_cons]
      refine List.nodup_cons.mpr ⟨fun hm => ?_, ih⟩
      obtain ⟨q, hq, e⟩ := List.mem_map.mp hm
      obtain ⟨hq1, hq2⟩ := List.mem_filter.mp hq
      exact n1 (List.mem_map.mpr ⟨q, hq1, cell_inj (of_decide_eq_true hq2) h e⟩)
    · rw [List.filter_cons_of_neg (by simp [h])]
      exact ih
theorem leI_nil {l h z e t : Int} : leI [l, h, z, e, t] [] = false := rfl
theorem leI_code {a b : List Int} (ha : CellOk a) (hb : CellOk b) (h : TS.code 2000 a ≤ TS.code 2000 b) (ne : a ≠ b) : leI b a = false := by
  obtain ⟨l, x, z, e, t, rfl, a1, a2, a3, a4, a5, a6, a7, a8⟩ := ha
  obtain ⟨l', x', z', e', t', rfl, b1, b2, b3, b4, b5, b6, b7, b8⟩ := hb
  have p4 : (2000 : Int) ^ 4 = 16000000000000 := by decide
  have p3 : (2000 : Int) ^ 3 = 8000000000 := by decide
  have p2 : (2000 : Int) ^ 2 = 4000000 := by decide
  have p1 : (2000 : Int) ^ 1 = 2000 := by decide
  have p0 : (2000 : Int) ^ 0 = 1 := by decide
  have cc : ∀ l x z e t : Int, TS.code 2000 [l, x, z, e, t] = l * 16000000000000 + (x * 8000000000 + (z * 4000000 + (e * 2000 + (t * 1 + 0)))) := fun l x z e t => by
    show l * 2000 ^ 4 + (x * 2000 ^ 3 + (z * 2000 ^ 2 + (e * 2000 ^ 1 + (t * 2000 ^ 0 + 0)))) = _
    rw [p4, p3, p2, p1, p0]
  have c1 := cc l x z e t
  have c2 := cc l' x' z' e' t'
  rw [c1, c2] at h
  have hne : ¬ (l = l' ∧ x = x' ∧ z = z' ∧ e = e' ∧ t = t') := fun ⟨q1, q2, q3, q4, q5⟩ => ne (by rw [q1, q2, q3, q4, q5])
  show (if decide (l' = l) = true then (if decide (x' = x) = true then (if decide (z' = z) = true then (if decide (e' = e) = true then (if decide (t' = t) = true then decide (5 ≤ 5) else decide (t' ≤ t)) else decide (e' ≤ e)) else decide (z' ≤ z)) else decide (x' ≤ x)) else decide (l' ≤ l)) = false
  by_cases q1 : l' = l
  · rw [if_pos (decide_eq_true q1)]
    by_cases q2 : x' = x
    · rw [if_pos (decide_eq_true q2)]
      by_cases q3 : z' = z
      · rw [if_pos (decide_eq_true q3)]
        by_cases q4 : e' = e
        · rw [if_pos (decide_eq_true q4)]
          by_cases q5 : t' = t
          · exact absurd ⟨q1.symm, q2.symm, q3.symm, q4.symm, q5.symm⟩ hne
          · rw [if_neg (by rw [decide_eq_false q5]; exact Bool.false_ne_true)]
            exact decide_eq_false (by omega)
        · rw [if_neg (by rw [decide_eq_false q4]; exact Bool.false_ne_true)]
          exact decide_eq_false (by omega)
      · rw [if_neg (by rw [decide_eq_false q3]; exact Bool.false_ne_true)]
        exact decide_eq_false (by omega)
    · rw [if_neg (by rw [decide_eq_false q2]; exact Bool.false_ne_true)]
      exact decide_eq_false (by omega)
  · rw [if_neg (by rw [decide_eq_false q1]; exact Bool.false_ne_true)]
    exact decide_eq_false (by omega)
theorem sum_le {c : Nat} : ∀ {l : List Nat}, (∀ x ∈ l, x ≤ c) → l.sum ≤ l.length * c
  | [], _ => Nat.le_of_eq (by simp)
  | x :: l, h => by
    have h1 := h x List.mem_cons_self
    have h2 := sum_le (l := l) fun y hy => h y (List.mem_cons_of_mem _ hy)
    rw [List.sum_cons, List.length_cons, Nat.succ_mul]
    omega
theorem within_one {C : List (Ky × Cl)} {L : List (List Int)} {k : Ky} {d : Cl} {z e t : Int} (hL : L.Perm (rowsOf C k.r)) (h : (k, d) ∈ C) (hz : k.z ≤ z) (he : d.e ≤ e) (ht : t ≤ d.l) : L.any (withinB [k.lo, k.hi, z, e, t]) = true := by
  refine List.any_eq_true.mpr ⟨cell5 (k, d), hL.mem_iff.mpr (List.mem_map.mpr ⟨(k, d), List.mem_filter.mpr ⟨h, decide_eq_true rfl⟩, rfl⟩), ?_⟩
  show (decide (k.lo ≤ k.lo) && (decide (k.hi ≤ k.hi) && (decide (k.z ≤ z) && (decide (d.e ≤ e) && decide (t ≤ d.l))))) = true
  rw [decide_eq_true (Int.le_refl _), decide_eq_true (Int.le_refl _), decide_eq_true hz, decide_eq_true he, decide_eq_true ht]
  rfl
theorem Wf.paper {P : Pg} {n : Nat} (W : Wf P n) {s : Sk} {out : List (List (List Int))} (h : KeptOk P (signsOf P) (Uall P n) s out) : PaperOk P (signsOf P) out := by
  obtain ⟨I, hC, hW, hL, hlen, hout⟩ := h
  have FL := W.fl
  have G := W.toGood
  have at_ : ∀ i, i < P.length → ∃ L, out[i]? = some L := fun i hi => ⟨out[i]'(by omega), List.getElem?_eq_getElem _⟩
  have cells : ∀ (i : Nat) (L : List (List Int)) (m : List Int), out[i]? = some L → m ∈ L → ∃ p ∈ s.C, p.1.r = i ∧ m = cell5 p := fun i L m hi hm => by
    have h1 := (hout i L hi).1.mem_iff.mp hm
    obtain ⟨p, hp, rfl⟩ := List.mem_map.mp h1
    obtain ⟨p1, p2⟩ := List.mem_filter.mp hp
    exact ⟨p, p1, of_decide_eq_true p2, rfl⟩
  have good : ∀ p ∈ s.C, CellOk (cell5 p) := fun p hp => by
    obtain ⟨k, c⟩ := p
    obtain ⟨R, _⟩ := FL.ok k (I.cU _ hp)
    obtain ⟨h1, h2, h3, h4, _⟩ := I.ce k c (mem_look hp I.nd)
    have := R.z01
    exact ⟨_, _, _, _, _, rfl, R.l0, R.lh, R.h255, (by show 0 ≤ k.z; omega), (by show k.z ≤ 1; omega), h1, h2, h4 hL⟩
  refine ⟨⟨hlen, fun L hLo => ?_, fun i r L hr hi hd => ?_, ?_⟩, ?_, fun i L m hi hm => ?_⟩
  · obtain ⟨i, hi⟩ := List.getElem?_of_mem hLo
    obtain ⟨hp, hs⟩ := hout i L hi
    have hg : ∀ m ∈ L, CellOk m := fun m hm => by
      obtain ⟨p, h1, _, rfl⟩ := cells i L m hi hm
      exact good p h1
    have nd : L.Nodup := hp.nodup_iff.mpr (rows_nodup I.nd i)
    refine ⟨hg, fun m hm => ?_, fun j a b ha hb => ?_⟩
    · obtain ⟨l, x, z, e, t, rfl, _⟩ := hg m (List.mem_of_getElem? hm)
      exact leI_nil
    · obtain ⟨ja, ea⟩ := List.getElem?_eq_some_iff.mp ha
      obtain ⟨jb, eb⟩ := List.getElem?_eq_some_iff.mp hb
      have hle := List.pairwise_iff_getElem.mp hs j (j + 1) ja jb (Nat.lt_succ_self j)
      have hne := List.pairwise_iff_getElem.mp nd j (j + 1) ja jb (Nat.lt_succ_self j)
      rw [ea, eb] at hle hne
      exact leI_code (hg a (List.mem_of_getElem? ha)) (hg b (List.mem_of_getElem? hb)) hle hne
  · refine List.eq_nil_iff_forall_not_mem.mpr fun m hm => ?_
    obtain ⟨p, h1, h2, _⟩ := cells i L m hi hm
    have hin := (all_mem.mp (I.cU p h1)).1
    rw [h2] at hin
    have := (good_beat (W.good i r hin hr)).2.2.2.2
    rw [hd] at this
    cases this
  · have h1 := sum_le (c := 64) (l := out.map List.length) fun x hx => by
      obtain ⟨L, hLo, rfl⟩ := List.mem_map.mp hx
      obtain ⟨i, hi⟩ := List.getElem?_of_mem hLo
      rw [(hout i L hi).1.length_eq]
      exact Nat.le_of_lt (I.rows64 G.row i)
    rw [List.length_map, hlen] at h1
    have := W.l14
    omega
  · obtain ⟨c, hc, he⟩ := I.fi
    obtain ⟨L, hL0⟩ := at_ 0 (Nat.lt_of_lt_of_le W.n1 W.le)
    obtain ⟨_, h2, _⟩ := I.ce _ c hc
    refine ⟨L, hL0, ?_⟩
    obtain ⟨h1, _⟩ := I.ce _ c hc
    exact within_one (k := ⟨0, 0, 0, 1⟩) (d := c) (hout 0 L hL0).1 (look_mem hc) (Int.le_refl _) he (by omega)
  · obtain ⟨⟨k, c⟩, hp, hk, rfl⟩ := cells i L m hi hm
    have hk : k.r = i := hk
    obtain ⟨R, r, RO⟩ := FL.ok k (I.cU _ hp)
    have hlook := mem_look hp I.nd
    rw [hk] at RO
    refine ⟨k.lo, k.hi, k.z, c.e, c.l, rfl, R, ⟨r, RO⟩, fun q hq => ?_⟩
    rcases hC k c hlook with h | h
    · rw [hW] at h; cases h
    · obtain ⟨d, hd1, hd2⟩ := h q (by rw [hk]; exact hq) True.intro
      have hqU := (FL.step k (I.cU _ hp) q (by rw [hk]; exact hq)).1
      have hqr : q.r < P.length := Nat.lt_of_lt_of_le (all_mem.mp hqU).1 W.le
      obtain ⟨L', hL'⟩ := at_ q.r hqr
      refine ⟨L', hL', ?_⟩
      have hperm := (hout q.r L' hL').1
      rw [hk] at hd2
      cases hw : waitAt P i with
      | true =>
        rw [hw, if_pos rfl] at hd2
        rw [if_pos rfl]
        exact within_one (k := q.key) (d := d) hperm (look_mem hd1) (Int.le_refl _) hd2.1 hd2.2
      | false =>
        rw [hw, if_neg Bool.false_ne_true] at hd2
        rw [if_neg Bool.false_ne_true]
        exact within_one (k := q.key) (d := d) hperm (look_mem hd1) (Int.le_refl _) hd2.1 hd2.2

section
variable {P : Program} {w : World} {K : PySem.W.Frag} {mg : Str → Option Value} {base : Heap} {CS : Addr}
def sp_law (K : PySem.W.Frag) : Sp := fun vs H Q _ => ∃ (a : Addr) (ns : List Int), vs = [.ref a] ∧ SqL K H a (ns.map V.int) ∧ ns.length ≤ 1000 ∧ ∀ H', Q (.bl true) H'
abbrev N_law : List Str := ["_law_script", "_law_deck_here", "_law_program", "_law_found"]
theorem sc_law : FnScope N_law ["_law_script"] (defScope s_law) := ⟨rfl, rfl, rfl, by decide +kernel, rfl, by decide +kernel, by decide +kernel⟩
theorem okF {x : Str} {st : Stmt} {N ps : List Str} {k : Nat} {sp : Sp} {f : Addr} {fd : FuncData} (F : FnP K x x st f fd) (S : FnScope N ps (defScope st)) (len : ∀ vs H Q E, sp vs H Q E → vs.length = ps.length)
    (hbody : ∀ (cdv : Value) (A : Around) (outer : List Env) (s : Shared) (H : Hp) (vs : List V) (Q : VK) (E : XK), Room k (A.deeper (envOfC x (defScope st) s.heap.objs.size f cdv)) → sp vs H Q E →
      ∃ t, PSs (cxOf CX0 P w K mg base N x (defScope st) f cdv A outer s H E).nox (defBody st) t ∧ t { nx := fun _ H' => Q .non H', rt := Q } (start N vs) H) : FnOk P w K mg base CX0 (k + 1) f fd ps sp :=
  F.ok S len fun cdv A outer s H vs Q E hr h => let ⟨t, h1, h2⟩ := hbody cdv A outer s H vs Q E hr h; ⟨t, h1.nox, h2⟩
theorem okF_law (T : TX K mg) (C : TC K mg CS) {f0 : Addr} {fd0 : FuncData} (F : FnP K "law" "law" s_law f0 fd0) : FnOk P w K mg base CX0 9 f0 fd0 ["_law_script"] (sp_law K) := by
  refine okF F sc_law (fun vs H Q E h => ?_) (fun cdv A outer s H vs Q E hr h => ?_)
  · obtain ⟨_, _, rfl, _⟩ := h; rfl
  · obtain ⟨a, ns, rfl, ha, hns, k⟩ := h
    refine ⟨_, (pss_cons (ps_set (i := 1) sc_law.nd rfl (Or.inl rfl) (pcall (ok_law_deck T) (hr.mono (by decide)) rfl (pa_cons (pv 0) (pa_cons pe_int pa_nil))))
        (pss_cons (ps_set (i := 2) sc_law.nd rfl (Or.inl rfl) (pcall (ok_law_tamed T) (hr.mono (by decide)) rfl (pa_cons (pcall (ok_law_free T) (hr.mono (by decide)) rfl (pa_cons (pv 1) (pa_cons (pe_op op_add pe_int (pe_op op_mod (pcall (ok_law_next T) (hr.mono (by decide)) rfl (pa_cons (pv 1) pa_nil)) pe_int)) (pa_cons (pe_op op_mod (pcall (ok_law_next T) (hr.mono (by decide)) rfl (pa_cons (pv 1) pa_nil)) pe_int) pa_nil)))) pa_nil)))
        (C8.pss_cut (ps_if (pt_cmpR op_eq (pe_op op_mod (pcall (ok_law_next T) (hr.mono (by decide)) rfl (pa_cons (pv 1) pa_nil)) pe_int) pe_int (nomark _)) (pss_one (ps_set (i := 2) sc_law.nd rfl (Or.inl rfl) (pcall (ok_law_with_waits T) (hr.mono (by decide)) rfl (pa_cons (pv 2) pa_nil)))) pss_nil)
        (pss_cons (ps_set (i := 3) sc_law.nd rfl (Or.inl rfl) (pcall (ok_times_of T C) (hr.mono (by decide)) rfl (pa_cons (pv 2) (pa_cons pe_int pa_nil))))
        (pss_cons (ps_if (pt_cmpR op_ne (pe_callB call_len_seq rfl T.n_len (by decide +kernel) (pa_cons (pv 3) pa_nil)) pe_int (nomark _)) (pss_one (ps_ret pe_bl)) pss_nil)
        (pss_cons (ps_if (pt_cmpR op_eq (pe_ix ix_tup (pv 3) pe_int (fun _ _ => rfl)) pe_str (nomark _)) (pss_one (ps_ret (pe_and (pcall (ok_law_may_be_late T) (hr.mono (by decide)) rfl (pa_cons (pv 2) pa_nil)) (pe_one (pe_cmpR op_is_bl (pcall (ok_right_late T) (hr.mono (by decide)) rfl (pa_cons (pv 2) (pa_cons pe_int (pa_cons (pe_ix ix_tup (pv 3) pe_int (fun _ _ => rfl)) pa_nil)))) pe_bl (nomark _)))))) pss_nil)
        (pss_one (ps_ret (pe_and (pe_cmpR op_eq (pe_ix ix_tup (pv 3) pe_int (fun _ _ => rfl)) pe_str (nomark _)) (pe_one (pe_cmpR op_is_bl (pcall (ok_right_times T) (hr.mono (by decide)) rfl (pa_cons (pv 2) (pa_cons pe_int (pa_cons (pe_ix ix_tup (pv 3) pe_int (fun _ _ => rfl)) pa_nil)))) pe_bl (nomark _)))))))))))), ?_⟩
    refine ⟨_, rfl, a, ns, rfl, ha, hns, fun H1 d s1 hd => ?_⟩
    refine ⟨_, rfl, _, rfl, d, rfl, hd, fun H2 i c2 => ⟨_, _, rfl, rfl, (by show (0 : Int) < 11; decide), _, _, rfl, rfl, _, rfl, d, rfl, c2.dk, fun H3 j c3 => ⟨_, _, rfl, rfl, (by show (0 : Int) < 3; decide), ?_⟩⟩⟩
    obtain ⟨n, hn, n2, n12⟩ : ∃ n : Nat, (2 : Int) + i % 11 = (n : Nat) ∧ 2 ≤ n ∧ n ≤ 12 := by
      have h1 := Int.emod_nonneg i (show (11 : Int) ≠ 0 by decide)
      have h2 := Int.emod_lt_of_pos i (show (0 : Int) < 11 by decide)
      exact ⟨(2 + i % 11).toNat, by omega, by omega, by omega⟩
    obtain ⟨sm, hsm, sm2⟩ : ∃ sm : Nat, j % 3 = (sm : Int) ∧ sm ≤ 2 := by
      have h1 := Int.emod_nonneg j (show (3 : Int) ≠ 0 by decide)
      have h2 := Int.emod_lt_of_pos j (show (0 : Int) < 3 by decide)
      exact ⟨(j % 3).toNat, by omega, by omega⟩
    refine ⟨d, n, sm, ?_, c3.dk, n2, n12, sm2, fun H4 p Pr c4 hP hF => ⟨p, Pr, rfl, hP, Nat.le_trans hF.l14 (by decide), fun H5 p2 s5 hP2 => ?_⟩⟩
    · show [V.ref d, V.int (2 + i % 11), V.int (j % 3)] = _
      rw [hn, hsm]
    have W := hF.wf
    have hd5 := (Ch.same c4.dk s5).dk
    refine ⟨fun σ' H' => ∃ p3 Pr3, σ' = [some (.ref a), some (.ref d), some (.ref p3), none] ∧ PgAt K H' p3 Pr3 ∧ Wf Pr3 n, ⟨_, rfl, d, rfl, hd5, fun H6 q c6 => ⟨_, _, rfl, rfl, (by show (0 : Int) < 2; decide), rfl, _, rfl, ite_b (fun e => ?_) fun e => ?_⟩⟩, ?_⟩
    · exact ⟨_, rfl, p2, _, rfl, hP2.sameT (c6.t hd5), W.len, fun H7 p3 s7 hP3 => ⟨p3, _, rfl, hP3, W.waits⟩⟩
    · exact ⟨p2, _, rfl, hP2.sameT (c6.t hd5), W⟩
    rintro σ' H6 ⟨p3, Pr3, rfl, hP3, W3⟩
    have G := W3.toGood
    refine ⟨_, rfl, p3, Pr3, Uall Pr3 n, rfl, hP3, G, fun H7 f t rows t7 hf ht hlate => ?_, fun H7 f t out s t7 hf hpap hkept => ?_⟩
    · refine ⟨_, rfl, f, _, rfl, .inr hf, rfl, _, rfl, iteF ?_⟩
      refine ⟨_, rfl, f, _, _, _, rfl, rfl, hf, rfl, rfl, _, rfl, ?_⟩
      rw [show decide (V.str "late" = V.str "late") = true from decide_eq_true rfl]
      refine iteT ⟨_, rfl, p3, Pr3, n, rfl, hP3.sameT t7, W3.lawOk, fun H8 t8 => ⟨_, rfl, iteT ?_⟩, fun H8 F t8 hcl => (W3.notClosed hlate hcl).elim⟩
      exact ⟨_, rfl, _, rfl, f, _, _, _, rfl, rfl, sameT_sqT t8 hf, rfl, p3, t, Pr3, rows, rfl, hP3.sameT (t7.trans t8), W3.len, G.sum, G.so, sameT_sqT t8 ht, W3.late hlate, fun H9 s9 => ⟨true, true, rfl, rfl, k H9⟩⟩
    · refine ⟨_, rfl, f, _, rfl, .inr hf, rfl, _, rfl, iteF ?_⟩
      refine ⟨_, rfl, f, _, _, _, rfl, rfl, hf, rfl, rfl, _, rfl, ?_⟩
      rw [show decide (V.str "kept" = V.str "late") = false by decide +kernel]
      refine iteF ⟨_, rfl, f, _, _, _, rfl, rfl, hf, rfl, rfl, _, rfl, ?_⟩
      rw [show decide (V.str "kept" = V.str "kept") = true from decide_eq_true rfl]
      exact iteT ⟨_, rfl, _, rfl, f, _, _, _, rfl, rfl, hf, rfl, p3, t, Pr3, out, rfl, hP3.sameT t7, W3.len, G.sum, G.so, hpap, W3.paper hkept, fun H9 s9 => ⟨true, true, rfl, rfl, k H9⟩⟩
end

set_option maxHeartbeats 0
abbrev Al2 : Type := He.AlD × Bool
def obsB (n : Nat) (fa : List He.Fa) (fn : List He.DefD) (ts : List (Str × List He.Dv)) (g : Addr → Option Obj) : Al2 := (He.obsD fa fn (He.frG g (He.asD g n)), ts.all fun t => He.tupB (He.frG g (He.asD g n)) t.1 t.2)
def SaysB (fa : List He.Fa) (fn : List He.DefD) (ts : List (Str × List He.Dv)) (K : PySem.W.Frag) : Prop := He.SaysD fa fn K ∧ (ts.all fun t => He.tupB K t.1 t.2) = true
def hookB (n : Nat) (fa : List He.Fa) (fn : List He.DefD) (ts : List (Str × List He.Dv)) : PySem.W.Hook where
  α := Al2
  obs := fun s => obsB n fa fn ts s.heap.get?
  val := fun _ => (He.valD fn, true)
  says := fun _ h => ∃ K : PySem.W.Frag, K.In h ∧ SaysB fa fn ts K
  of := fun _ _ e => ⟨_, He.frG_in, congrArg (fun z : Al2 => z.1) e, congrArg (fun z : Al2 => z.2) e⟩
  keeps := fun _ _ _ ⟨K, hK, c⟩ k => ⟨K, PySem.W.Frag.In.keeps hK k, c⟩
theorem obsB_eq {n : Nat} {fa : List He.Fa} {fn : List He.DefD} {ts : List (Str × List He.Dv)} {g : Addr → Option Obj} {s : Shared} (h : ∀ a, g a = s.heap.get? a) : obsB n fa fn ts g = (hookB n fa fn ts).obs s := by
  have e : g = s.heap.get? := funext h
  rw [e] <;> rfl
def fn0 : List He.DefD := [⟨("byte_count", none), "byte_count", "byte_count", defArgs s_byte_count, defBody s_byte_count, defScope s_byte_count, [], []⟩,
  ⟨("beat_count", none), "beat_count", "beat_count", defArgs s_beat_count, defBody s_beat_count, defScope s_beat_count, [], []⟩,
  ⟨("is_table", none), "is_table", "is_table", defArgs s_is_table, defBody s_is_table, defScope s_is_table, [], []⟩,
  ⟨("row_of", none), "row_of", "row_of", defArgs s_row_of, defBody s_row_of, defScope s_row_of, [], []⟩,
  ⟨("next_rows", none), "next_rows", "next_rows", defArgs s_next_rows, defBody s_next_rows, defScope s_next_rows, [], []⟩,
  ⟨("long_of", none), "long_of", "long_of", defArgs s_long_of, defBody s_long_of, defScope s_long_of, [], []⟩,
  ⟨("want_room", none), "want_room", "want_room", defArgs s_want_room, defBody s_want_room, defScope s_want_room, [], []⟩,
  ⟨("addresses", none), "addresses", "addresses", defArgs s_addresses, defBody s_addresses, defScope s_addresses, [], []⟩,
  ⟨("is_crossed", none), "is_crossed", "is_crossed", defArgs s_is_crossed, defBody s_is_crossed, defScope s_is_crossed, [], []⟩,
  ⟨("page_sign", none), "page_sign", "page_sign", defArgs s_page_sign, defBody s_page_sign, defScope s_page_sign, [], []⟩,
  ⟨("page_signs", none), "page_signs", "page_signs", defArgs s_page_signs, defBody s_page_signs, defScope s_page_signs, [], []⟩,
  ⟨("is_within", none), "is_within", "is_within", defArgs s_is_within, defBody s_is_within, defScope s_is_within, [], []⟩]
def fn1 : List He.DefD := [⟨("more_parts", none), "more_parts", "more_parts", defArgs s_more_parts, defBody s_more_parts, defScope s_more_parts, [], []⟩,
  ⟨("less_parts", none), "less_parts", "less_parts", defArgs s_less_parts, defBody s_less_parts, defScope s_less_parts, [], []⟩,
  ⟨("x_behind", none), "x_behind", "x_behind", defArgs s_x_behind, defBody s_x_behind, defScope s_x_behind, [], []⟩,
  ⟨("x_where", none), "x_where", "x_where", defArgs s_x_where, defBody s_x_where, defScope s_x_where, [], []⟩,
  ⟨("x_gone", none), "x_gone", "x_gone", defArgs s_x_gone, defBody s_x_gone, defScope s_x_gone, [], []⟩,
  ⟨("if_comes", none), "if_comes", "if_comes", defArgs s_if_comes, defBody s_if_comes, defScope s_if_comes, [], []⟩,
  ⟨("comes_of", none), "comes_of", "comes_of", defArgs s_comes_of, defBody s_comes_of, defScope s_comes_of, [], []⟩,
  ⟨("is_between", none), "is_between", "is_between", defArgs s_is_between, defBody s_is_between, defScope s_is_between, [], []⟩,
  ⟨("is_cell", none), "is_cell", "is_cell", defArgs s_is_cell, defBody s_is_cell, defScope s_is_cell, [], []⟩,
  ⟨("are_rising", none), "are_rising", "are_rising", defArgs s_are_rising, defBody s_are_rising, defScope s_are_rising, [], []⟩,
  ⟨("are_entries", none), "are_entries", "are_entries", defArgs s_are_entries, defBody s_are_entries, defScope s_are_entries, [], []⟩,
  ⟨("are_cells", none), "are_cells", "are_cells", defArgs s_are_cells, defBody s_are_cells, defScope s_are_cells, [], []⟩]
def fn2 : List He.DefD := [⟨("is_within_one", none), "is_within_one", "is_within_one", defArgs s_is_within_one, defBody s_is_within_one, defScope s_is_within_one, [], []⟩,
  ⟨("cell_keeps", none), "cell_keeps", "cell_keeps", defArgs s_cell_keeps, defBody s_cell_keeps, defScope s_cell_keeps, [], []⟩,
  ⟨("right_times", none), "right_times", "right_times", defArgs s_right_times, defBody s_right_times, defScope s_right_times, [], []⟩,
  ⟨("most_towards", none), "most_towards", "most_towards", defArgs s_most_towards, defBody s_most_towards, defScope s_most_towards, [], []⟩,
  ⟨("is_line_begin", none), "is_line_begin", "is_line_begin", defArgs s_is_line_begin, defBody s_is_line_begin, defScope s_is_line_begin, [], []⟩,
  ⟨("is_flow", none), "is_flow", "is_flow", defArgs s_is_flow, defBody s_is_flow, defScope s_is_flow, [], []⟩,
  ⟨("right_late", none), "right_late", "right_late", defArgs s_right_late, defBody s_right_late, defScope s_right_late, [], []⟩,
  ⟨("keys_behind", none), "keys_behind", "keys_behind", defArgs s_keys_behind, defBody s_keys_behind, defScope s_keys_behind, [], []⟩,
  ⟨("least_keys", none), "least_keys", "least_keys", defArgs s_least_keys, defBody s_least_keys, defScope s_least_keys, [], []⟩,
  ⟨("rows_of_way", none), "rows_of_way", "rows_of_way", defArgs s_rows_of_way, defBody s_rows_of_way, defScope s_rows_of_way, [], []⟩,
  ⟨("times_of", none), "times_of", "times_of", defArgs s_times_of, defBody s_times_of, defScope s_times_of, [], []⟩,
  ⟨("_law_mixed", none), "_law_mixed", "_law_mixed", defArgs s_law_mixed, defBody s_law_mixed, defScope s_law_mixed, [], []⟩]
def fn3 : List He.DefD := [⟨("_law_deck", none), "_law_deck", "_law_deck", defArgs s_law_deck, defBody s_law_deck, defScope s_law_deck, [], []⟩,
  ⟨("_law_next", none), "_law_next", "_law_next", defArgs s_law_next, defBody s_law_next, defScope s_law_next, [], []⟩,
  ⟨("_law_deeds", none), "_law_deeds", "_law_deeds", defArgs s_law_deeds, defBody s_law_deeds, defScope s_law_deeds, [], []⟩,
  ⟨("_law_most", none), "_law_most", "_law_most", defArgs s_law_most, defBody s_law_most, defScope s_law_most, [], []⟩,
  ⟨("_law_name", none), "_law_name", "_law_name", defArgs s_law_name, defBody s_law_name, defScope s_law_name, [], []⟩,
  ⟨("_law_value", none), "_law_value", "_law_value", defArgs s_law_value, defBody s_law_value, defScope s_law_value, [], []⟩,
  ⟨("_law_beats", none), "_law_beats", "_law_beats", defArgs s_law_beats, defBody s_law_beats, defScope s_law_beats, [], []⟩,
  ⟨("_law_free", none), "_law_free", "_law_free", defArgs s_law_free, defBody s_law_free, defScope s_law_free, [], []⟩,
  ⟨("_law_tamed", none), "_law_tamed", "_law_tamed", defArgs s_law_tamed, defBody s_law_tamed, defScope s_law_tamed, [], []⟩,
  ⟨("_law_next_rows", none), "_law_next_rows", "_law_next_rows", defArgs s_law_next_rows, defBody s_law_next_rows, defScope s_law_next_rows, [], []⟩,
  ⟨("_law_may_be_late", none), "_law_may_be_late", "_law_may_be_late", defArgs s_law_may_be_late, defBody s_law_may_be_late, defScope s_law_may_be_late, [], []⟩,
  ⟨("_law_with_waits", none), "_law_with_waits", "_law_with_waits", defArgs s_law_with_waits, defBody s_law_with_waits, defScope s_law_with_waits, [], []⟩]
def fn4 : List He.DefD := [⟨("law", none), "law", "law", defArgs s_law, defBody s_law, defScope s_law, [], []⟩,
  ⟨("Seeking", some "__init__"), "__init__", "Seeking.__init__", defArgs s_Seeking_init, defBody s_Seeking_init, defScope s_Seeking_init, [], []⟩,
  ⟨("Seeking", some "put"), "put", "Seeking.put", defArgs s_Seeking_put, defBody s_Seeking_put, defScope s_Seeking_put, [], []⟩,
  ⟨("Seeking", some "go_on"), "go_on", "Seeking.go_on", defArgs s_Seeking_go_on, defBody s_Seeking_go_on, defScope s_Seeking_go_on, [], []⟩,
  ⟨("Seeking", some "seek"), "seek", "Seeking.seek", defArgs s_Seeking_seek, defBody s_Seeking_seek, defScope s_Seeking_seek, [], []⟩,
  ⟨("Seeking", some "paper"), "paper", "Seeking.paper", defArgs s_Seeking_paper, defBody s_Seeking_paper, defScope s_Seeking_paper, [], []⟩]
def fn : List He.DefD := fn0 ++ fn1 ++ fn2 ++ fn3 ++ fn4
def fa0 : List He.Fa := [.glo "byte_count", .glo "beat_count", .glo "is_table", .glo "row_of", .glo "next_rows", .glo "long_of", .glo "want_room", .glo "addresses", .glo "is_crossed", .glo "page_sign", .glo "page_signs", .glo "is_within", .glo "more_parts", .glo "less_parts", .glo "x_behind", .glo "x_where", .glo "x_gone", .glo "if_comes", .glo "comes_of", .glo "is_between"]
def fa1 : List He.Fa := [.glo "is_cell", .glo "are_rising", .glo "are_entries", .glo "are_cells", .glo "is_within_one", .glo "cell_keeps", .glo "right_times", .glo "most_towards", .glo "is_line_begin", .glo "is_flow", .glo "right_late", .glo "keys_behind", .glo "least_keys", .glo "rows_of_way", .glo "times_of", .glo "_law_mixed", .glo "_law_deck", .glo "_law_next", .glo "_law_deeds", .glo "_law_most"]
def fa2 : List He.Fa := [.glo "_law_name", .glo "_law_value", .glo "_law_beats", .glo "_law_free", .glo "_law_tamed", .glo "_law_next_rows", .glo "_law_may_be_late", .glo "_law_with_waits", .glo "law", .glo "PLAIN_DEEDS", .glo "IF_DEEDS_deeds", .glo "THREE_BEATS", .glo "FOUR_BEATS", .int "ROOM" 256, .int "PAGE" 32, .glo "IF_DEEDS_pages", .int "MOST_CELLS" 3000, .int "MOST_BEAT" 30, .int "MOST_BYTE" 255, .int "MOST_WAY" 40]
def fa3 : List He.Fa := [.glo "FIRST_CELL", .glo "SAME_FLAG", .glo "FIRST_KEY", .free "len", .free "sum", .free "min", .free "max", .free "int", .free "range", .free "tuple", .free "list", .free "sorted", .free "set", .free "isinstance", .free "zip", .free "enumerate", .free "reversed", .free "bool", .glo "Seeking", .cls "Seeking"]
def fa4 : List He.Fa := [.mkr "Seeking", .noat "Seeking" "program", .noat "Seeking" "signs", .noat "Seeking" "cells", .noat "Seeking" "waiting", .noat "Seeking" "late", .meth "Seeking" "put", .meth "Seeking" "go_on", .meth "Seeking" "seek", .meth "Seeking" "paper"]
def fa : List He.Fa := fa0 ++ fa1 ++ fa2 ++ fa3 ++ fa4
def tb : List (Str × List He.Dv) := [("PLAIN_DEEDS", [.str "half", .str "twice", .str "up", .str "down", .str "tox", .str "toa", .str "rest", .str "idle", .str "wait"]),
  ("IF_DEEDS_deeds", [.str "ifz", .str "ifn", .str "ifc", .str "ifd"]),
  ("THREE_BEATS", [.str "get", .str "put", .str "add", .str "sub", .str "mask", .str "flip", .str "getx", .str "putx", .str "idle", .str "go", .str "door", .str "eye"]),
  ("FOUR_BEATS", [.str "lay", .str "take", .str "at"]),
  ("IF_DEEDS_pages", [.str "ifz", .str "ifn", .str "ifc", .str "ifd"]),
  ("FIRST_CELL", [.int 0, .int 0, .int 1, .int 0, .int 0]),
  ("SAME_FLAG", [.str "put", .str "putx", .str "lay", .str "rest", .str "idle", .str "go", .str "ifz", .str "ifn", .str "ifc", .str "ifd", .str "door", .str "wait"]),
  ("FIRST_KEY", [.int 0, .int 0, .int 0, .int 1])]
def loose0 : List Str := ["__name__", "PLAIN_DEEDS", "IF_DEEDS_deeds", "THREE_BEATS", "FOUR_BEATS", "byte_count", "beat_count", "RowsError", "NoRoom", "TooMany", "is_table", "row_of", "next_rows", "ROOM", "PAGE", "IF_DEEDS_pages", "long_of", "want_room", "addresses", "is_crossed", "page_sign", "page_signs", "MOST_CELLS", "MOST_BEAT", "MOST_BYTE", "MOST_WAY", "FIRST_CELL", "SAME_FLAG", "is_within", "more_parts"]
def loose1 : List Str := ["less_parts", "x_behind", "x_where", "x_gone", "if_comes", "comes_of", "is_between", "is_cell", "are_rising", "are_entries", "are_cells", "is_within_one", "cell_keeps", "right_times", "most_towards", "is_line_begin", "is_flow", "right_late", "FIRST_KEY", "keys_behind", "least_keys", "Seeking", "rows_of_way", "times_of", "_law_mixed", "_law_deck", "_law_next", "_law_deeds", "_law_most", "_law_name"]
def loose2 : List Str := ["_law_value", "_law_beats", "_law_free", "_law_tamed", "_law_next_rows", "_law_may_be_late", "_law_with_waits"]
def loose : List Str := loose0 ++ loose1 ++ loose2
abbrev R : PySem.W.OpenRow := PySem.W.OpenLaw.row PySem.Challenge.rw_beamrows_k55_whole_kept_or_late
abbrev hk : PySem.W.Hook := hookB 4 fa fn tb
def ob (s : PySem.W.SharedT) : Al2 := obsB 4 fa fn tb (HandSHeadRun.getT s)
theorem ob_eq (s : PySem.W.SharedT) : ob s = hk.obs s.abs := obsB_eq (HandSHeadRun.getT_eq s)
theorem run (w : World) : HandSHeadRun.RunEq R (PySem.W.view R.prog [73]) hk ob 6000 loose w := by
  intro os
  kernel_rfl

section
variable {K : PySem.W.Frag} {h : Heap} {mg : Str → Option Value}
theorem tb_at (c : SaysB fa fn tb K) (i : Nat) {t : Str × List He.Dv} (h : tb[i]? = some t := by rfl) : He.tupB K t.1 t.2 = true := List.all_eq_true.mp c.2 t (List.mem_of_getElem? h)
theorem tx_of (X : K.In h) (G : h.Ns mainGlobals mg) (c : SaysB fa fn tb K) : TX K mg where
  d_byte_count := let ⟨fd, F⟩ := c.1.def_ 0 rfl; ⟨_, fd, F, He.glo_ok X G (c.1.fact 0 (f := .glo "byte_count") rfl)⟩
  d_beat_count := let ⟨fd, F⟩ := c.1.def_ 1 rfl; ⟨_, fd, F, He.glo_ok X G (c.1.fact 1 (f := .glo "beat_count") rfl)⟩
  d_is_table := let ⟨fd, F⟩ := c.1.def_ 2 rfl; ⟨_, fd, F, He.glo_ok X G (c.1.fact 2 (f := .glo "is_table") rfl)⟩
  d_row_of := let ⟨fd, F⟩ := c.1.def_ 3 rfl; ⟨_, fd, F, He.glo_ok X G (c.1.fact 3 (f := .glo "row_of") rfl)⟩
  d_next_rows := let ⟨fd, F⟩ := c.1.def_ 4 rfl; ⟨_, fd, F, He.glo_ok X G (c.1.fact 4 (f := .glo "next_rows") rfl)⟩
  d_long_of := let ⟨fd, F⟩ := c.1.def_ 5 rfl; ⟨_, fd, F, He.glo_ok X G (c.1.fact 5 (f := .glo "long_of") rfl)⟩
  d_want_room := let ⟨fd, F⟩ := c.1.def_ 6 rfl; ⟨_, fd, F, He.glo_ok X G (c.1.fact 6 (f := .glo "want_room") rfl)⟩
  d_addresses := let ⟨fd, F⟩ := c.1.def_ 7 rfl; ⟨_, fd, F, He.glo_ok X G (c.1.fact 7 (f := .glo "addresses") rfl)⟩
  d_is_crossed := let ⟨fd, F⟩ := c.1.def_ 8 rfl; ⟨_, fd, F, He.glo_ok X G (c.1.fact 8 (f := .glo "is_crossed") rfl)⟩
  d_page_sign := let ⟨fd, F⟩ := c.1.def_ 9 rfl; ⟨_, fd, F, He.glo_ok X G (c.1.fact 9 (f := .glo "page_sign") rfl)⟩
  d_page_signs := let ⟨fd, F⟩ := c.1.def_ 10 rfl; ⟨_, fd, F, He.glo_ok X G (c.1.fact 10 (f := .glo "page_signs") rfl)⟩
  d_is_within := let ⟨fd, F⟩ := c.1.def_ 11 rfl; ⟨_, fd, F, He.glo_ok X G (c.1.fact 11 (f := .glo "is_within") rfl)⟩
  d_more_parts := let ⟨fd, F⟩ := c.1.def_ 12 rfl; ⟨_, fd, F, He.glo_ok X G (c.1.fact 12 (f := .glo "more_parts") rfl)⟩
  d_less_parts := let ⟨fd, F⟩ := c.1.def_ 13 rfl; ⟨_, fd, F, He.glo_ok X G (c.1.fact 13 (f := .glo "less_parts") rfl)⟩
  d_x_behind := let ⟨fd, F⟩ := c.1.def_ 14 rfl; ⟨_, fd, F, He.glo_ok X G (c.1.fact 14 (f := .glo "x_behind") rfl)⟩
  d_x_where := let ⟨fd, F⟩ := c.1.def_ 15 rfl; ⟨_, fd, F, He.glo_ok X G (c.1.fact 15 (f := .glo "x_where") rfl)⟩
  d_x_gone := let ⟨fd, F⟩ := c.1.def_ 16 rfl; ⟨_, fd, F, He.glo_ok X G (c.1.fact 16 (f := .glo "x_gone") rfl)⟩
  d_if_comes := let ⟨fd, F⟩ := c.1.def_ 17 rfl; ⟨_, fd, F, He.glo_ok X G (c.1.fact 17 (f := .glo "if_comes") rfl)⟩
  d_comes_of := let ⟨fd, F⟩ := c.1.def_ 18 rfl; ⟨_, fd, F, He.glo_ok X G (c.1.fact 18 (f := .glo "comes_of") rfl)⟩
  d_is_between := let ⟨fd, F⟩ := c.1.def_ 19 rfl; ⟨_, fd, F, He.glo_ok X G (c.1.fact 19 (f := .glo "is_between") rfl)⟩
  d_is_cell := let ⟨fd, F⟩ := c.1.def_ 20 rfl; ⟨_, fd, F, He.glo_ok X G (c.1.fact 20 (f := .glo "is_cell") rfl)⟩
  d_are_rising := let ⟨fd, F⟩ := c.1.def_ 21 rfl; ⟨_, fd, F, He.glo_ok X G (c.1.fact 21 (f := .glo "are_rising") rfl)⟩
  d_are_entries := let ⟨fd, F⟩ := c.1.def_ 22 rfl; ⟨_, fd, F, He.glo_ok X G (c.1.fact 22 (f := .glo "are_entries") rfl)⟩
  d_are_cells := let ⟨fd, F⟩ := c.1.def_ 23 rfl; ⟨_, fd, F, He.glo_ok X G (c.1.fact 23 (f := .glo "are_cells") rfl)⟩
  d_is_within_one := let ⟨fd, F⟩ := c.1.def_ 24 rfl; ⟨_, fd, F, He.glo_ok X G (c.1.fact 24 (f := .glo "is_within_one") rfl)⟩
  d_cell_keeps := let ⟨fd, F⟩ := c.1.def_ 25 rfl; ⟨_, fd, F, He.glo_ok X G (c.1.fact 25 (f := .glo "cell_keeps") rfl)⟩
  d_right_times := let ⟨fd, F⟩ := c.1.def_ 26 rfl; ⟨_, fd, F, He.glo_ok X G (c.1.fact 26 (f := .glo "right_times") rfl)⟩
  d_most_towards := let ⟨fd, F⟩ := c.1.def_ 27 rfl; ⟨_, fd, F, He.glo_ok X G (c.1.fact 27 (f := .glo "most_towards") rfl)⟩
  d_is_line_begin := let ⟨fd, F⟩ := c.1.def_ 28 rfl; ⟨_, fd, F, He.glo_ok X G (c.1.fact 28 (f := .glo "is_line_begin") rfl)⟩
  d_is_flow := let ⟨fd, F⟩ := c.1.def_ 29 rfl; ⟨_, fd, F, He.glo_ok X G (c.1.fact 29 (f := .glo "is_flow") rfl)⟩
  d_right_late := let ⟨fd, F⟩ := c.1.def_ 30 rfl; ⟨_, fd, F, He.glo_ok X G (c.1.fact 30 (f := .glo "right_late") rfl)⟩
  d_keys_behind := let ⟨fd, F⟩ := c.1.def_ 31 rfl; ⟨_, fd, F, He.glo_ok X G (c.1.fact 31 (f := .glo "keys_behind") rfl)⟩
  d_least_keys := let ⟨fd, F⟩ := c.1.def_ 32 rfl; ⟨_, fd, F, He.glo_ok X G (c.1.fact 32 (f := .glo "least_keys") rfl)⟩
  d_rows_of_way := let ⟨fd, F⟩ := c.1.def_ 33 rfl; ⟨_, fd, F, He.glo_ok X G (c.1.fact 33 (f := .glo "rows_of_way") rfl)⟩
  d_times_of := let ⟨fd, F⟩ := c.1.def_ 34 rfl; ⟨_, fd, F, He.glo_ok X G (c.1.fact 34 (f := .glo "times_of") rfl)⟩
  d_law_mixed := let ⟨fd, F⟩ := c.1.def_ 35 rfl; ⟨_, fd, F, He.glo_ok X G (c.1.fact 35 (f := .glo "_law_mixed") rfl)⟩
  d_law_deck := let ⟨fd, F⟩ := c.1.def_ 36 rfl; ⟨_, fd, F, He.glo_ok X G (c.1.fact 36 (f := .glo "_law_deck") rfl)⟩
  d_law_next := let ⟨fd, F⟩ := c.1.def_ 37 rfl; ⟨_, fd, F, He.glo_ok X G (c.1.fact 37 (f := .glo "_law_next") rfl)⟩
  d_law_deeds := let ⟨fd, F⟩ := c.1.def_ 38 rfl; ⟨_, fd, F, He.glo_ok X G (c.1.fact 38 (f := .glo "_law_deeds") rfl)⟩
  d_law_most := let ⟨fd, F⟩ := c.1.def_ 39 rfl; ⟨_, fd, F, He.glo_ok X G (c.1.fact 39 (f := .glo "_law_most") rfl)⟩
  d_law_name := let ⟨fd, F⟩ := c.1.def_ 40 rfl; ⟨_, fd, F, He.glo_ok X G (c.1.fact 40 (f := .glo "_law_name") rfl)⟩
  d_law_value := let ⟨fd, F⟩ := c.1.def_ 41 rfl; ⟨_, fd, F, He.glo_ok X G (c.1.fact 41 (f := .glo "_law_value") rfl)⟩
  d_law_beats := let ⟨fd, F⟩ := c.1.def_ 42 rfl; ⟨_, fd, F, He.glo_ok X G (c.1.fact 42 (f := .glo "_law_beats") rfl)⟩
  d_law_free := let ⟨fd, F⟩ := c.1.def_ 43 rfl; ⟨_, fd, F, He.glo_ok X G (c.1.fact 43 (f := .glo "_law_free") rfl)⟩
  d_law_tamed := let ⟨fd, F⟩ := c.1.def_ 44 rfl; ⟨_, fd, F, He.glo_ok X G (c.1.fact 44 (f := .glo "_law_tamed") rfl)⟩
  d_law_next_rows := let ⟨fd, F⟩ := c.1.def_ 45 rfl; ⟨_, fd, F, He.glo_ok X G (c.1.fact 45 (f := .glo "_law_next_rows") rfl)⟩
  d_law_may_be_late := let ⟨fd, F⟩ := c.1.def_ 46 rfl; ⟨_, fd, F, He.glo_ok X G (c.1.fact 46 (f := .glo "_law_may_be_late") rfl)⟩
  d_law_with_waits := let ⟨fd, F⟩ := c.1.def_ 47 rfl; ⟨_, fd, F, He.glo_ok X G (c.1.fact 47 (f := .glo "_law_with_waits") rfl)⟩
  d_law := let ⟨fd, F⟩ := c.1.def_ 48 rfl; ⟨_, fd, F, He.glo_ok X G (c.1.fact 48 (f := .glo "law") rfl)⟩
  c_PLAIN_DEEDS := ⟨_, He.glo_ok X G (c.1.fact 49 (f := .glo "PLAIN_DEEDS") rfl), fun H => He.tupB_ok (tb_at c 0 rfl) H⟩
  c_IF_DEEDS_deeds := ⟨_, He.glo_ok X G (c.1.fact 50 (f := .glo "IF_DEEDS_deeds") rfl), fun H => He.tupB_ok (tb_at c 1 rfl) H⟩
  c_THREE_BEATS := ⟨_, He.glo_ok X G (c.1.fact 51 (f := .glo "THREE_BEATS") rfl), fun H => He.tupB_ok (tb_at c 2 rfl) H⟩
  c_FOUR_BEATS := ⟨_, He.glo_ok X G (c.1.fact 52 (f := .glo "FOUR_BEATS") rfl), fun H => He.tupB_ok (tb_at c 3 rfl) H⟩
  i_ROOM := He.int_ok X G (c.1.fact 53 (f := .int "ROOM" 256) rfl)
  i_PAGE := He.int_ok X G (c.1.fact 54 (f := .int "PAGE" 32) rfl)
  c_IF_DEEDS_pages := ⟨_, He.glo_ok X G (c.1.fact 55 (f := .glo "IF_DEEDS_pages") rfl), fun H => He.tupB_ok (tb_at c 4 rfl) H⟩
  i_MOST_CELLS := He.int_ok X G (c.1.fact 56 (f := .int "MOST_CELLS" 3000) rfl)
  i_MOST_BEAT := He.int_ok X G (c.1.fact 57 (f := .int "MOST_BEAT" 30) rfl)
  i_MOST_BYTE := He.int_ok X G (c.1.fact 58 (f := .int "MOST_BYTE" 255) rfl)
  i_MOST_WAY := He.int_ok X G (c.1.fact 59 (f := .int "MOST_WAY" 40) rfl)
  c_FIRST_CELL := ⟨_, He.glo_ok X G (c.1.fact 60 (f := .glo "FIRST_CELL") rfl), fun H => He.tupB_ok (tb_at c 5 rfl) H⟩
  c_SAME_FLAG := ⟨_, He.glo_ok X G (c.1.fact 61 (f := .glo "SAME_FLAG") rfl), fun H => He.tupB_ok (tb_at c 6 rfl) H⟩
  c_FIRST_KEY := ⟨_, He.glo_ok X G (c.1.fact 62 (f := .glo "FIRST_KEY") rfl), fun H => He.tupB_ok (tb_at c 7 rfl) H⟩
  n_len := He.free_ok X G (c.1.fact 63 (f := .free "len") rfl)
  n_sum := He.free_ok X G (c.1.fact 64 (f := .free "sum") rfl)
  n_min := He.free_ok X G (c.1.fact 65 (f := .free "min") rfl)
  n_max := He.free_ok X G (c.1.fact 66 (f := .free "max") rfl)
  n_int := He.free_ok X G (c.1.fact 67 (f := .free "int") rfl)
  n_range := He.free_ok X G (c.1.fact 68 (f := .free "range") rfl)
  n_tuple := He.free_ok X G (c.1.fact 69 (f := .free "tuple") rfl)
  n_list := He.free_ok X G (c.1.fact 70 (f := .free "list") rfl)
  n_sorted := He.free_ok X G (c.1.fact 71 (f := .free "sorted") rfl)
  n_set := He.free_ok X G (c.1.fact 72 (f := .free "set") rfl)
  n_isinstance := He.free_ok X G (c.1.fact 73 (f := .free "isinstance") rfl)
  n_zip := He.free_ok X G (c.1.fact 74 (f := .free "zip") rfl)
  n_enumerate := He.free_ok X G (c.1.fact 75 (f := .free "enumerate") rfl)
  n_reversed := He.free_ok X G (c.1.fact 76 (f := .free "reversed") rfl)
  n_bool := He.free_ok X G (c.1.fact 77 (f := .free "bool") rfl)
theorem tc_of (X : K.In h) (G : h.Ns mainGlobals mg) (c : SaysB fa fn tb K) : TC K mg (He.ga K "Seeking") where
  cl := He.cls_ok (c.1.fact 79 (f := .cls "Seeking") rfl)
  mgC := He.glo_ok X G (c.1.fact 78 (f := .glo "Seeking") rfl)
  n_program := He.noat_ok (c.1.fact 81 (f := .noat "Seeking" "program") rfl)
  n_signs := He.noat_ok (c.1.fact 82 (f := .noat "Seeking" "signs") rfl)
  n_cells := He.noat_ok (c.1.fact 83 (f := .noat "Seeking" "cells") rfl)
  n_waiting := He.noat_ok (c.1.fact 84 (f := .noat "Seeking" "waiting") rfl)
  n_late := He.noat_ok (c.1.fact 85 (f := .noat "Seeking" "late") rfl)
  d_init := let ⟨fd, F⟩ := c.1.def_ 49 rfl; ⟨_, fd, F, He.mkr_ok (c.1.fact 80 (f := .mkr "Seeking") rfl)⟩
  d_put := let ⟨fd, F⟩ := c.1.def_ 50 rfl; ⟨_, fd, F, He.meth_ok (c.1.fact 86 (f := .meth "Seeking" "put") rfl)⟩
  d_go_on := let ⟨fd, F⟩ := c.1.def_ 51 rfl; ⟨_, fd, F, He.meth_ok (c.1.fact 87 (f := .meth "Seeking" "go_on") rfl)⟩
  d_seek := let ⟨fd, F⟩ := c.1.def_ 52 rfl; ⟨_, fd, F, He.meth_ok (c.1.fact 88 (f := .meth "Seeking" "seek") rfl)⟩
  d_paper := let ⟨fd, F⟩ := c.1.def_ 53 rfl; ⟨_, fd, F, He.meth_ok (c.1.fact 89 (f := .meth "Seeking" "paper") rfl)⟩
theorem facts {P : Program} {w : World} {f : Addr} (X : K.In h) (G : h.Ns mainGlobals mg) (hfa : mg ("law" : Str) = some (.ref f)) (c : SaysB fa fn tb K) :
    ∃ fd : FuncData, (∀ (s : Shared) (v : Value), BindsTo s fd ⟨[v], []⟩ [("_law_script", v)]) ∧ ∀ base : Heap, K.In base → base.Ns mainGlobals mg → FnOk P w K mg base CX0 9 f fd ["_law_script"] (sp_law K) := by
  obtain ⟨fd, F⟩ := c.1.def_ 48 rfl
  have F : FnP K "law" "law" s_law _ fd := F
  have e := hfa.symm.trans (He.glo_ok X G (c.1.fact 48 (f := .glo "law") rfl))
  cases e
  have b := FunD.bindsA (ps := ["_law_script"]) F fun _ _ _ _ _ _ us hl => match us, hl with | [_], _ => rfl
  exact ⟨fd, fun s v => b s [v] rfl, fun base _ _ => okF_law (tx_of X G c) (tc_of X G c) F⟩
end
end Br
open PySem PySem.W PySem.Calls PyProof.Rows
theorem PySem.Challenge.cw_beamrows_k55_whole_kept_or_late_holds : PySem.Challenge.rw_beamrows_k55_whole_kept_or_late.Holds := by
  w_on; o_law
  refine HandSHeadRun.head_any (r := OpenLaw.row PySem.Challenge.rw_beamrows_k55_whole_kept_or_late) (q := view (OpenLaw.row PySem.Challenge.rw_beamrows_k55_whole_kept_or_late).prog [73]) (H := Br.hk) (ob := Br.ob) (M := 6000) (loose := Br.loose) (d := HandSHeadRun.topDef (OpenLaw.row PySem.Challenge.rw_beamrows_k55_whole_kept_or_late).prog 73) (kwd := []) Br.ob_eq
    (by kernel_rfl) (fun s => by kernel_rfl) Br.run (by kernel_rfl) (by kernel_rfl) (by kernel_rfl) (by rfl) (by first | assumption | decide +kernel) (by decide +kernel) ⟨rfl, rfl, rfl, rfl, rfl, by decide +kernel⟩ ?hw ?hc
  case hw => w_witness2
  case hc =>
    refine L2.walk_ofE (l := PySem.Challenge.rw_beamrows_k55_whole_kept_or_late) (n := 63) (k := 9) (x := "_law_script") (CX := L2.CX0) rfl (by decide) (by kernel_rfl) ⟨rfl, by decide, by decide⟩ ?F (fun _ _ _ _ z => z)
    intro w mg fa h Y G hmg0
    obtain ⟨K, KX, c⟩ := Y
    have hmg : mg ("law" : PySem.Str) = some (.ref fa) := by
      have e : (HandSHeadRun.topDef (OpenLaw.row PySem.Challenge.rw_beamrows_k55_whole_kept_or_late).prog 73).name = ("law" : PySem.Str) := by kernel_rfl
      rw [← e]
      exact hmg0
    obtain ⟨fd, hb, hF⟩ := Br.facts (P := (PySem.Challenge.rw_beamrows_k55_whole_kept_or_late).prog) (w := w) KX G hmg c
    exact ⟨K, fd, Br.sp_law K, KX, hb, fun H a ns hl _ hS => ⟨a, ns, rfl, hS, Nat.le_trans hl (by decide), fun _ => rfl⟩, hF⟩
