import PyProof.Rows.All
import Wide.All
import OpenK.AllK
import Wide.FinOn
import HandS.Zip
import HandS.Walk
import KE.GoesZip
import KE.GoesMore
import KE.GoesEnum
import HandS.TryOnly
import PyProof.AutoSeq1
import HandS.List
import KE.SortData
import KE.DataMinMax
import HandS.Dict
import HandS.WordsDict
import KE.KeyNested
import KE.GoesDict
import PyProof.Rows.TupTab
import HandS.TupLe
import HandS.ForMost
import HandS.Exc
import HandS.ExcOwn
import HandS.WordsExc
import HandS.Flow
import HandS.Style
import HandS.TupAny
import HandS.Wide
import HandS.WideBits
import HandS.Defaults
import HandS.SortInts
import HandS.RaiseMore
import HandS.IsInst
import HandS.Replace
import HandS.More
import HandS.Small
import HandS.HeadHook1
import HandS.CallLocal
import HandS.ExcIs
import KE.KStateDown
import HandS.Head0
import HandS.Head1
import HandS.Head2
import HandS.HeadEnd
import HandS.HeadHook2
import HandS.HeadHook3
import Wide.Once
import Open.Pieces
import PySem.Challenge.RW_arearoutes_k71_across_roots_kin_and_powe
set_option Elab.async false
set_option linter.all false
set_option maxRecDepth 100000
set_option maxHeartbeats 4000000
/-! zip of two: each a list, a tuple or a text -/
namespace ZG
open PySem PySem.Spec PyProof.Rows L2
inductive Zs where | l (a : Addr) | t (a : Addr) | s (x : Str)
def Zs.v : Zs → V
  | .l a => .ref a
  | .t a => .ref a
  | .s x => .str x
def Zs.At (K : PySem.W.Frag) (H : Hp) : Zs → List V → Prop
  | .l a, xs => SqL K H a xs
  | .t a, xs => SqT K H a xs
  | .s x, xs => xs = x.cps.toList.map fun c => V.str ⟨#[c]⟩
def Zs.lt (N : Nat) : Zs → Prop
  | .l a => a < N
  | .t a => a < N
  | .s _ => True
def Zs.St (it : Addr) (i : Nat) (h : Heap) : Zs → Prop
  | .l a => h.IsListIter it a i
  | .t a => h.IsTupleIter it a i
  | .s x => ∃ t, h.IsStrIter it (strIterType x) x t i
theorem Zs.St.obj {it : Addr} {i : Nat} {h : Heap} : ∀ {z : Zs}, z.St it i h → ∃ o, h.get? it = some o ∧ ∀ v, o.data ≠ .cell v
  | .l a, ⟨o, e, _, d⟩ => ⟨o, e, fun v q => by rw [d] at q; cases q⟩
  | .t a, ⟨o, e, _, d⟩ => ⟨o, e, fun v q => by rw [d] at q; cases q⟩
  | .s x, ⟨_, o, e, _, d⟩ => ⟨o, e, fun v q => by rw [d] at q; cases q⟩
theorem Zs.St.keep {it : Addr} {i : Nat} {h h' : Heap} (k : ∀ o, h.get? it = some o → h'.get? it = some o) : ∀ {z : Zs}, z.St it i h → z.St it i h'
  | .l a, ⟨o, e, r⟩ => ⟨o, k o e, r⟩
  | .t a, ⟨o, e, r⟩ => ⟨o, k o e, r⟩
  | .s x, ⟨tk, o, e, r⟩ => ⟨tk, o, k o e, r⟩
theorem Zs.inj {X : Cx} {pins : List (Addr × Obj)} {σ : L2.St} {H : Hp} {s : Shared} (I : Inv X pins σ H s) {xs ys : List V} : ∀ {z : Zs}, z.At X.K H xs → z.At X.K H ys → xs = ys
  | .l _, h, h' => I.list_inj h h'
  | .t _, h, h' => I.tuple_inj h h'
  | .s _, h, h' => Eq.trans h (Eq.symm h')
/-- what is drawn off it as it stands -/
theorem Zs.draw {X : Cx} {pins : List (Addr × Obj)} {σ : L2.St} {H : Hp} {s : Shared} (I : Inv X pins σ H s) (hh : X.A.handled = none) {it N : Addr} {i : Nat} {xs : List V} : ∀ {z : Zs}, z.At X.K H xs → z.lt N → (N ≤ it) → z.St it i s.heap →
    ∃ (fp : List Addr) (P : Nat → Value → Prop) (St : Nat → Heap → Prop), Draws X.prog X.w X.A.in1 it (it :: fp) xs.length P St ∧ (∀ b ∈ fp, b < N) ∧ St i s.heap ∧ (∀ j h, St j h → z.St it j h) ∧ ∀ u x, P i u → xs[i]? = some x → RelV x u
  | .l a, hx, hl, hN, st => by
    obtain ⟨its, rv, p, _⟩ := I.list hx
    have D := Draws.list (prog := X.prog) (w := X.w) (A := X.A.in1) hh it a (Nat.ne_of_lt (Nat.lt_of_lt_of_le hl hN)) its.toArray
    have el : its.toArray.size = xs.length := by rw [List.size_toArray, rv.length]
    rw [el] at D
    refine ⟨[a], _, _, D, fun b hb => by simpa using (by simpa using hb : b = a) ▸ hl, ⟨st, p.isList⟩, fun j h q => q.1, fun u x hu hx' => ?_⟩
    obtain ⟨u', h1, h2⟩ := rv.get hx'
    have hu : its[i]? = some u := by simpa using hu
    rw [hu] at h1
    cases h1
    exact h2
  | .t a, hx, hl, hN, st => by
    obtain ⟨its, rv, p, _⟩ := I.tuple hx
    have D := Draws.tuple (prog := X.prog) (w := X.w) (A := X.A.in1) hh it a (Nat.ne_of_lt (Nat.lt_of_lt_of_le hl hN)) its.toArray
    have el : its.toArray.size = xs.length := by rw [List.size_toArray, rv.length]
    rw [el] at D
    refine ⟨[a], _, _, D, fun b hb => by simpa using (by simpa using hb : b = a) ▸ hl, ⟨st, p⟩, fun j h q => q.1, fun u x hu hx' => ?_⟩
    obtain ⟨u', h1, h2⟩ := rv.get hx'
    have hu : its[i]? = some u := by simpa using hu
    rw [hu] at h1
    cases h1
    exact h2
  | .s y, hx, hl, hN, ⟨tt, st⟩ => by
    have hx : xs = y.cps.toList.map fun c => V.str ⟨#[c]⟩ := hx
    subst hx
    have D := Draws.text (prog := X.prog) (w := X.w) (A := X.A.in1) hh it y tt
    have el : y.cps.size = (y.cps.toList.map fun c => V.str ⟨#[c]⟩).length := by simp
    rw [el] at D
    refine ⟨[], _, _, D, fun b hb => by simp at hb, st, fun j h q => ⟨tt, q⟩, fun u x hu hx' => ?_⟩
    obtain ⟨c, tk, h1, rfl⟩ := hu
    rw [List.getElem?_map, Array.getElem?_toList, h1] at hx'
    cases hx'
    exact ⟨_, rfl⟩
def ItG (K : PySem.W.Frag) (z1 z2 : Zs) : It :=
  ⟨fun i H => ∃ xs ys x y, z1.At K H xs ∧ z2.At K H ys ∧ xs[i]? = some x ∧ ys[i]? = some y,
   fun i H v H' => ∃ T x y, v = .ref T ∧ H T = none ∧ H' = upd H T (.tup [x, y]) ∧ (∀ xs, z1.At K H xs → xs[i]? = some x) ∧ ∀ ys, z2.At K H ys → ys[i]? = some y,
   fun i H => ∃ xs ys, z1.At K H xs ∧ z2.At K H ys ∧ i ≤ xs.length ∧ i ≤ ys.length ∧ (i = xs.length ∨ i = ys.length)⟩
def five (N : Nat) : List Addr := [N + 4, N + 2, N + 3, N, N + 1]
theorem turn_G {P : Program} {w : World} {K : PySem.W.Frag} {elts : List Expr} {kk : Nat} {tpos : Pos} {z1 z2 : Zs} {N : Nat} (l1 : z1.lt N) (l2 : z2.lt N) :
    Turn P w K (.Tuple elts kk tpos) (ItG K z1 z2) (five N) (N + 4) (fun i h => IsZip h (N + 4) (N + 2) (N + 3) .none ∧ IsTupOf2 h (N + 2) (.ref N) (.ref (N + 1)) ∧ (∃ x y, IsTupOf2 h (N + 3) x y) ∧ z1.St N i h ∧ z2.St (N + 1) i h) where
  mem := by simp [five]
  obj := fun i h st c hc => by
    obtain ⟨hz, hTI, ⟨x, y, hTO⟩, h1, h2⟩ := st
    have e' : c = N + 4 ∨ c = N + 2 ∨ c = N + 3 ∨ c = N ∨ c = N + 1 := by simpa [five] using hc
    rcases e' with q | q | q | q | q
    · rw [q]; exact ⟨_, hz, fun v q => nomatch q⟩
    · rw [q]; exact ⟨_, hTI, fun v q => nomatch q⟩
    · rw [q]; exact ⟨_, hTO, fun v q => nomatch q⟩
    · rw [q]; exact h1.obj
    · rw [q]; exact h2.obj
  keep := fun i h h' st k => by
    obtain ⟨hz, hTI, ⟨x, y, hTO⟩, h1, h2⟩ := st
    exact ⟨k _ (by simp [five]) _ hz, k _ (by simp [five]) _ hTI, ⟨x, y, k _ (by simp [five]) _ hTO⟩, h1.keep fun o q => k _ (by simp [five]) o q, h2.keep fun o q => k _ (by simp [five]) o q⟩
  item := by
    intro X hP hw hK hc i pins s σ H E I hf st hg
    subst hP hw hK
    obtain ⟨hz, hTI, ⟨x0, y0, hTO⟩, h1, h2⟩ := st
    obtain ⟨xs, ys, x, y, hqx, hqy, hx, hy⟩ := hg
    obtain ⟨fp1, P1, St1, D1, f1, s1, b1, r1⟩ := Zs.draw I (I.ok.hd hc) hqx l1 (Nat.le_refl _) h1
    obtain ⟨fp2, P2, St2, D2, f2, s2, b2, r2⟩ := Zs.draw I (I.ok.hd hc) hqy l2 (Nat.le_succ _) h2
    have S := zip_sep2 f1 f2
    have hzl : N + 4 < s.heap.objs.size := Heap.lt_size hz
    refine wpAny_pyNext_zipD2_item S D1 D2 hz hTI hTO s1 s2 (List.getElem?_eq_some_iff.mp hx).1 (List.getElem?_eq_some_iff.mp hy).1 fun u u2 h' tk p1 p2 z' TO' d1 d2 hT hsz hk => ?_
    have ru := r1 u x p1 hx
    have ru2 := r2 u2 y p2 hy
    refine ⟨_, rfl, wpAny_letOwnedTupleGo_zip (s := { s with heap := h', toks := tk }) z' fun h'' z'' sb => ?_⟩
    have hT2 : h''.get? s.heap.objs.size = some { cls := .type "tuple", data := .seq #[u, u2] } := (sb.2 _ (Nat.ne_of_gt hzl)).trans hT
    have new : ObjOk X.prog X.w (upd H s.heap.objs.size (.tup [x, y])) h'' s.heap.objs.size (.tup [x, y]) :=
      ⟨by show 2 ≤ sizeLine; decide, [u, u2], .cons ru (.cons ru2 .nil), ⟨_, hT2, rfl, _, rfl⟩⟩
    have I1 : Inv X pins σ (upd H s.heap.objs.size (.tup [x, y])) { s with heap := h'', toks := tk } :=
      I.turnedNew (t' := tk) (ch := five N) (fun c o hb q => (sb.2 c (fun q' => hb (by simp [five, q']))).trans (hk c o (fun q' => hb (by simp [five, q'])) (fun q' => hb (by simp [five, q'])) (fun q' => hb (by simp [five, q'])) (fun q' => hb (by simp [five, q'])) q)) hf (Nat.le_refl _) new
    refine ⟨.ref s.heap.objs.size, _, I1, rfl, ⟨_, x, y, rfl, I.hok.fresh (Nat.le_refl _), rfl, fun l hl => by rw [Zs.inj I hl hqx]; exact hx, fun l hl => by rw [Zs.inj I hl hqy]; exact hy⟩, ⟨z'', ?_, ⟨u, u2, ?_⟩, ?_, ?_⟩, fun c hcm => ?_⟩
    · exact (sb.2 _ S.TIz).trans (hk _ _ S.TIz S.TITO S.TIi1 S.TIi2 hTI)
    · exact (sb.2 _ S.TOz).trans TO'
    · exact (b1 _ _ d1).keep fun o q => (sb.2 _ S.zi1.symm).trans q
    · exact (b2 _ _ d2).keep fun o q => (sb.2 _ S.zi2.symm).trans q
    · have hlt : c < s.heap.objs.size := by
        have e' : c = N + 4 ∨ c = N + 2 ∨ c = N + 3 ∨ c = N ∨ c = N + 1 := by simpa [five] using hcm
        rcases e' with q | q | q | q | q
        · rw [q]; exact hzl
        · rw [q]; exact Nat.lt_of_le_of_lt (Nat.add_le_add_left (by decide) N) hzl
        · rw [q]; exact Nat.lt_of_le_of_lt (Nat.add_le_add_left (by decide) N) hzl
        · rw [q]; exact Nat.lt_of_le_of_lt (Nat.le_add_right N 4) hzl
        · rw [q]; exact Nat.lt_of_le_of_lt (Nat.add_le_add_left (by decide) N) hzl
      rw [upd_ne (Nat.ne_of_lt hlt)]
      exact (hf c hcm).1
  done := by
    intro X hP hw hK hc i pins s σ H E I hf st hg
    subst hP hw hK
    obtain ⟨hz, hTI, ⟨x0, y0, hTO⟩, h1, h2⟩ := st
    obtain ⟨xs, ys, hqx, hqy, hl1, hl2, hend⟩ := hg
    obtain ⟨fp1, P1, St1, D1, f1, s1, b1, r1⟩ := Zs.draw I (I.ok.hd hc) hqx l1 (Nat.le_refl _) h1
    obtain ⟨fp2, P2, St2, D2, f2, s2, b2, r2⟩ := Zs.draw I (I.ok.hd hc) hqy l2 (Nat.le_succ _) h2
    exact wpAny_pyNext_zipD2_end (zip_sep2 f1 f2) D1 D2 hz hTI hTO s1 s2 hl1 hl2 hend fun h' tk hk => ⟨rfl, I.turnedL (t' := tk) (ch := five N) (fun c o hb q =>
      hk c o (fun q' => hb (by simp [five, q'])) (fun q' => hb (by simp [five, q'])) (fun q' => hb (by simp [five, q'])) (fun q' => hb (by simp [five, q'])) q) hf⟩
  self := fun A i s Q E st h => wpAny_pyIter_zip st.1 h
/-- the iterator of it is made -/
theorem Zs.begins {X : Cx} {pins : List (Addr × Obj)} {σ : L2.St} {H : Hp} {s : Shared} (I : Inv X pins σ H s) {xs : List V} {u : Value} : ∀ {z : Zs}, z.At X.K H xs → RelV z.v u →
    ∃ (o : Obj) (Hh : Heap → Prop), Begins u o Hh ∧ Hh s.heap ∧ z.lt s.heap.objs.size ∧ ∀ (h : Heap) (it : Addr), h.get? it = some o → z.St it 0 h
  | .l a, hx, r => by
    obtain ⟨its, rv, p, _⟩ := I.list hx
    cases r
    exact ⟨_, _, begins_list a its.toArray, p.isList, p.lt, fun h it e => ⟨_, e, rfl, rfl⟩⟩
  | .t a, hx, r => by
    obtain ⟨its, rv, p, _⟩ := I.tuple hx
    cases r
    obtain ⟨o, ho, _⟩ := id p
    exact ⟨_, _, begins_tuple a its.toArray, p, Heap.lt_size ho, fun h it e => ⟨_, e, rfl, rfl⟩⟩
  | .s y, hx, r => by
    obtain ⟨tt, rfl⟩ := r
    exact ⟨_, _, begins_text y tt, trivial, trivial, fun h it e => ⟨tt, _, e, rfl, rfl⟩⟩
def iZipG (K : PySem.W.Frag) (ta : TA) : TI := fun σ H R => ta σ H fun vs H1 => ∃ (z1 z2 : Zs) (xs ys : List V), vs = [z1.v, z2.v] ∧ z1.At K H1 xs ∧ z2.At K H1 ys ∧ R (ItG K z1 z2) H1
theorem pi_zipG {X : Cx} {e e2 : Expr} {ta : TA} {p pos tpos : Pos} {elts : List Expr} {kk : Nat} (hg : Gl X "zip") (hm : X.mg "zip" = none) (ha : PA X [e, e2] ta)
    (hs : starEach [e, e2] X.env = (false, eval e X.env) :: starEach [e2] X.env) (hpl : (backTo pos (starEach [e2] X.env)).any (·.1) = false) :
    PI X (.Tuple elts kk tpos) (.Call (.Name "zip" p) [e, e2] [] pos) (iZipG X.K ta) := by
  refine ⟨fun pins s σ H R I h => ?_⟩
  refine Call_ (ld_blt I hg hm PyProof.Rows.boot_zip (PyProof.Rows.callWith_type1 (thn (ha.run pos pins s σ H _ I h) fun us s1 ⟨vs, H1, I1, r1, q1⟩ => ?_) hs hpl))
  obtain ⟨z1, z2, xs, ys, ex, hqx, hqy, q⟩ := q1
  subst ex
  cases r1 with
  | cons r rr =>
    cases rr with
    | cons r' rr =>
      cases rr
      obtain ⟨o1, Hh1, B1, g1, lt1, m1⟩ := Zs.begins I1 hqx r
      obtain ⟨o2, Hh2, B2, g2, lt2, m2⟩ := Zs.begins I1 hqy r'
      refine zip_begins2 B1 B2 g1 g2 fun h' hz hTI hTO h1 h2 hsz hk => wpAny_pyIter_zip hz ?_
      have I2 : Inv X pins σ H1 { s1 with heap := h' } := I1.kept (t' := s1.toks) hk
      refine ⟨s1.heap.objs.size + 4, five s1.heap.objs.size, _, _, H1, rfl, I2, turn_G lt1 lt2, ⟨hz, hTI, ⟨_, _, hTO⟩, m1 _ _ h1, m2 _ _ h2⟩, fun c hcm => ?_, q⟩
      have e' : c = s1.heap.objs.size + 4 ∨ c = s1.heap.objs.size + 2 ∨ c = s1.heap.objs.size + 3 ∨ c = s1.heap.objs.size ∨ c = s1.heap.objs.size + 1 := by simpa [five] using hcm
      have hle : s1.heap.objs.size ≤ c := by
        rcases e' with z | z | z | z | z
        · rw [z]; exact Nat.le_add_right _ _
        · rw [z]; exact Nat.le_add_right _ _
        · rw [z]; exact Nat.le_add_right _ _
        · rw [z]; exact Nat.le_refl _
        · rw [z]; exact Nat.le_add_right _ _
      exact I1.fpOk hle (I1.hok.fresh hle)
/-- .. as a walk -/
theorem walk_zipG {K : PySem.W.Frag} {z1 z2 : Zs} {xs ys : List V} {n : Nat} (hn : n = min xs.length ys.length) :
    Walk (ItG K z1 z2) n (fun H => z1.At K H xs ∧ z2.At K H ys) (YPair (fun i => xs[i]?) (fun i => ys[i]?)) := by
  subst hn
  refine ⟨fun i _ hi h => ?_, fun _ h => ⟨xs, ys, h.1, h.2, Nat.min_le_left _ _, Nat.min_le_right _ _, (Nat.le_total xs.length ys.length).imp Nat.min_eq_left Nat.min_eq_right⟩, fun i H v H' _ h y => ?_⟩
  · have h1 : i < xs.length := by omega
    have h2 : i < ys.length := by omega
    exact ⟨xs, ys, xs[i], ys[i], h.1, h.2, by simp [h1], by simp [h2]⟩
  · obtain ⟨T, x, z, h1, h2, h3, h4, h5⟩ := y
    exact ⟨T, x, z, h1, h2, h3, h4 xs h.1, h5 ys h.2⟩
end ZG

set_option Elab.async false
set_option linter.all false
set_option maxRecDepth 100000
set_option maxHeartbeats 4000000
namespace ZG
open PySem PySem.Spec PyProof.Rows L2
theorem list_extend_tup (l : Addr) (items : Array Value) (n : Nat) (b : Addr) (items2 : Array Value) (n2 : Nat) (dd : Option Addr) (sl : Array (Option Value)) (hs0 : ¬(!items.isEmpty && Builtin.List.listTooLong (items.size + items2.size)) = true) (hs1 : items.size ≤ sizeLine) (hs2 : items.size + items2.size ≤ sizeLine + 1) :
    Meets (Builtin.«list.extend» ⟨[.ref l, .ref b], []⟩) (fun _ R s => s.heap.get? l = some { cls := .type "list", dict := none, data := .seq items n, slots := #[] } ∧ s.heap.get? b = some { cls := .type "tuple", dict := dd, data := .seq items2 n2, slots := sl } ∧ R (.ok (.ret Value.none)) { s with heap := s.heap.update l (Obj.mapSeq fun x => x ++ items2), toks := s.toks }) :=
  .of_wp fun prog w A R s h => by
    obtain ⟨heap0, gens0, drawn0, toks0, os0⟩ := s
    obtain ⟨hl, hb, hR⟩ := h
    have i1 := PySem.AutoSeq1.idx_int
    have i2 := PySem.AutoSeq1.sub_tuple_tuple
    have i3 := PySem.AutoSeq1.sub_list_list
    have i4 := PySem.AutoSeq1.sub_tuple_list
    have i5 := PySem.AutoSeq1.sub_list_tuple
    have both : (items ++ items2).size ≤ sizeLine + 1 := by
      rw [Array.size_append]
      exact hs2
    wp_walk using (wpAny_updateSeq hl rfl (hz := hs1) (_hz' := both)), PySem.AutoSeq1.wpAny_loadPart' hl, PySem.AutoSeq1.wpAny_loadPart' hb
    exact ⟨_, rfl, hR⟩
/-- xs.extend(a list or a tuple) -/
def rExtG (K : PySem.W.Frag) : V → List V → Hp → VK → Prop := fun x vs H Q => ∃ l b xs zs, x = .ref l ∧ vs = [.ref b] ∧ H l = some (.lst xs) ∧ (H b = some (.lst zs) ∨ SqT K H b zs) ∧ xs.length + zs.length ≤ sizeLine ∧ Q .non (upd H l (.lst (xs ++ zs)))
theorem mt_extG {X : Cx} : MtM X "list.extend" (rExtG X.K) := by
  intro pins s σ H x vs v us Q I rx rv h
  obtain ⟨l, b, xs, zs, rfl, rfl, hH, hB, hz, q⟩ := h
  rcases hB with hB | hB
  · exact mt_extend pins s σ H _ _ v us Q I rx rv ⟨l, b, xs, zs, rfl, rfl, hH, hB, hz, q⟩
  · cases rx
    obtain ⟨u, rfl, ru⟩ := rv.one
    cases ru
    obtain ⟨z, its, n, r, hl, e⟩ := I.lstM hH
    obtain ⟨its2, r2, ⟨o2, e2, c2, n2, d2⟩, hl2⟩ := I.tuple hB
    have l2 : zs.length = its2.length := r2.length
    have hsz : its.toArray.size + its2.toArray.size ≤ sizeLine := by rw [List.size_toArray, List.size_toArray]; omega
    have hlong : ¬ (!its.toArray.isEmpty && Builtin.List.listTooLong (its.toArray.size + its2.toArray.size)) = true := by
      rw [notLongL hsz, Bool.and_false]
      exact Bool.false_ne_true
    obtain ⟨oc, od, dt, osl⟩ := o2
    cases c2
    cases d2
    refine call_meets F.slot_list_extend ⟨_, e, rfl⟩ F.entry_list_extend (F.args_list_extend_2 _ _)
      (list_extend_tup l its.toArray n b its2.toArray n2 od osl hlong (by rw [List.size_toArray]; omega) (by omega)) ⟨e, e2, ?_⟩
    refine ⟨.non, _, I.lset (its' := its ++ its2) hH e (by simp) (r.append r2) ?_, rfl, q⟩
    rw [List.length_append]
    omega
/-- one or the other -/
theorem pg_or {X : Cx} {e : Expr} {t t' : TG} (h : PG X e t) (h' : PG X e t') : PG X e (fun v σ H Q => t v σ H Q ∨ t' v σ H Q) := ⟨fun pins s σ H v u Q I r q => q.elim (h.run pins s σ H v u Q I r) (h'.run pins s σ H v u Q I r)⟩
end ZG

set_option Elab.async false
set_option linter.all false
set_option maxRecDepth 100000
set_option maxHeartbeats 4000000
/-! sorted, min, max of nested data; e: what an item's mark stands for -/
namespace ZG
open PySem PySem.Spec PyProof.Rows L2 PySem.W
section
variable {δ : Type} {en : δ → PyData} {X : Cx} {pins : List (Addr × Obj)} {σ : L2.St} {H : Hp} {s : Shared}
theorem readsAll_of {h : Heap} : ∀ {bs : List (V × δ)} {us : List Value}, Vals (bs.map (·.1)) us → (∀ b ∈ bs, ∀ u, RelV b.1 u → ∃ as, Reads h u (en b.2) as) → ∃ as, ReadsAll h us (bs.map fun b => en b.2) as
  | [], us, r, _ => by
    cases r
    exact ⟨_, .nil⟩
  | b :: bs, us, r, k => by
    cases r with
    | cons r1 r2 =>
      obtain ⟨as, e1⟩ := k b (List.mem_cons_self ..) _ r1
      obtain ⟨as2, e2⟩ := readsAll_of r2 fun b' hb => k b' (List.mem_cons_of_mem _ hb)
      exact ⟨_, .cons e1 e2⟩
theorem eachIs_of {R : Value → (V × δ) → Prop} : ∀ {bs : List (V × δ)} {us : List Value}, Vals (bs.map (·.1)) us → (∀ b ∈ bs, ∀ u, RelV b.1 u → R u b) → EachIs R us bs
  | [], us, r, _ => by
    cases r
    exact .nil
  | b :: bs, us, r, k => by
    cases r with
    | cons r1 r2 => exact .cons (k b (List.mem_cons_self ..) _ r1) (eachIs_of r2 fun b' hb => k b' (List.mem_cons_of_mem _ hb))
theorem vals_of_each : ∀ {bs : List (V × δ)} {us : List Value}, EachIs (fun u b => RelV b.1 u) us bs → Vals (bs.map (·.1)) us
  | _, _, .nil => .nil
  | _, _, .cons r1 r2 => .cons r1 (vals_of_each r2)
def rSortD (en : δ → PyData) (K : PySem.W.Frag) : List V → Hp → VK → Prop := fun vs H Q => ∃ (a : Addr) (bs : List (V × δ)), vs = [.ref a] ∧ SqL K H a (bs.map (·.1)) ∧ (∀ b ∈ bs, Dp K H b.1 (en b.2)) ∧ AllAlike (bs.map fun b => en b.2) ∧ Sortable (bs.map fun b => en b.2) ∧ (∀ b ∈ bs, (en b.2).depth < 60) ∧
  ∀ p, H p = none → Q (.ref p) (upd H p (.lst ((bs.mergeSort (dataLe false fun b => en b.2)).map (·.1))))
theorem cr_sortD (hu : X.A.units + 64 < cLine) : CallR X (.builtin "sorted") (rSortD en X.K) := by
  intro pins s σ H vs us Q I r h
  obtain ⟨a, bs, rfl, hs, hd, hal, hk, hdp, q⟩ := h
  obtain ⟨its, rv, hl, hz⟩ := I.list hs
  rw [Vals.ref1 r]
  refine sorted_data (enc := fun b : V × δ => en b.2) (R := fun u b => RelV b.1 u) (bs := bs) hl.isList (eachIs_of rv fun b _ u r => r) (eachIs_of rv fun b hb u r => Dp.reads I _ _ u (hd b hb) r) hal hk (by rw [← List.length_map (f := fun b : V × δ => b.1)]; exact hz) (fun b hb => by have := hdp b hb; omega) fun out hlen hout => ?_
  obtain ⟨ep, he'⟩ := PyProof.Rows.sortedAll_at s.heap its out.toArray
  have hv : Vals ((bs.mergeSort (dataLe false fun b => en b.2)).map (·.1)) out := vals_of_each hout
  have hlen2 : ((bs.mergeSort (dataLe false fun b => en b.2)).map (·.1)).length ≤ sizeLine := by
    rw [List.length_map, List.length_mergeSort, ← List.length_map (f := fun b : V × δ => b.1)]
    exact hz
  exact ⟨.ref _, upd H (s.heap.objs.size + 1) (.lst ((bs.mergeSort (dataLe false fun b => en b.2)).map (·.1))), I.laid (t' := s.toks) (fun _ _ => PyProof.Rows.sortedAll_old) (Nat.le_succ _) ⟨hlen2, out, ep, hv, he'⟩, rfl, q _ (I.hok.fresh (Nat.le_succ _))⟩
def rMinD (en : δ → PyData) (K : PySem.W.Frag) (mn : PyData → List PyData → PyData) : List V → Hp → VK → Prop := fun vs H Q => ∃ (a : Addr) (b : V × δ) (bs : List (V × δ)), vs = [.ref a] ∧ SqL K H a ((b :: bs).map (·.1)) ∧ (∀ c ∈ b :: bs, Dp K H c.1 (en c.2)) ∧ AlikeAll ((b :: bs).map fun b => en b.2) ∧ PyData.depthAll ((b :: bs).map fun b => en b.2) < 60 ∧
  ∀ c ∈ b :: bs, en c.2 = mn (en b.2) (bs.map fun b => en b.2) → Q c.1 H
theorem best_of (I : Inv X pins σ H s) {bs : List (V × δ)} {its : List Value} (rv : Vals (bs.map (·.1)) its) (hd : ∀ c ∈ bs, Dp X.K H c.1 (en c.2)) {i : Nat} {v : Value} {h' : Heap} {d : PyData} {as : List Addr} (hv : its.toArray[i]? = some v) (r : Reads h' v d as) (k : ∀ b o, s.heap.get? b = some o → h'.get? b = some o) :
    ∃ c ∈ bs, RelV c.1 v ∧ en c.2 = d := by
  have hv : its[i]? = some v := by simpa using hv
  have hi : i < bs.length := by
    have := (List.getElem?_eq_some_iff.mp hv).1
    rw [← rv.length, List.length_map] at this
    exact this
  obtain ⟨u, h1, h2⟩ := rv.get (i := i) (x := bs[i].1) (by rw [List.getElem?_map, List.getElem?_eq_getElem hi]; rfl)
  rw [hv] at h1
  cases h1
  obtain ⟨bs2, r2⟩ := Dp.reads I _ _ v (hd bs[i] (List.getElem_mem hi)) h2
  obtain ⟨e, _⟩ := PyProof.Rows.reads_det (h := s.heap) (h' := h') (fun b o e _ => k b o e) r2 r
  exact ⟨bs[i], List.getElem_mem hi, h2, e.symm⟩
theorem cr_minD (hc : X.calm = true) (hu : X.A.units + 64 < cLine) : CallR X (.builtin "min") (rMinD en X.K minD) := by
  intro pins s σ H vs us Q I r h
  obtain ⟨a, b, bs, rfl, hs, hd, hal, hdp, q⟩ := h
  obtain ⟨its, rv, hl, hz⟩ := I.list hs
  rw [Vals.ref1 r]
  obtain ⟨as, hr⟩ := readsAll_of rv fun c hc u r => Dp.reads I _ _ u (hd c hc) r
  refine min_list_data (I.ok.hd hc) hl.isList (x := en b.2) (xs := bs.map fun c : V × δ => en c.2) (as := as) (by simpa using hr) hal (by have : PyData.depthAll (en b.2 :: bs.map fun b => en b.2) < 60 := hdp; omega) fun i v h' tk bs2 hv r2 hk => ?_
  obtain ⟨c, h1, h2, h3⟩ := best_of I rv hd hv r2 hk
  exact ⟨c.1, H, I.kept (t' := tk) hk, h2, q c h1 h3⟩
theorem cr_maxD (hc : X.calm = true) (hu : X.A.units + 64 < cLine) : CallR X (.builtin "max") (rMinD en X.K maxD) := by
  intro pins s σ H vs us Q I r h
  obtain ⟨a, b, bs, rfl, hs, hd, hal, hdp, q⟩ := h
  obtain ⟨its, rv, hl, hz⟩ := I.list hs
  rw [Vals.ref1 r]
  obtain ⟨as, hr⟩ := readsAll_of rv fun c hc u r => Dp.reads I _ _ u (hd c hc) r
  refine max_list_data (I.ok.hd hc) hl.isList (x := en b.2) (xs := bs.map fun c : V × δ => en c.2) (as := as) (by simpa using hr) hal (by have : PyData.depthAll (en b.2 :: bs.map fun b => en b.2) < 60 := hdp; omega) fun i v h' tk bs2 hv r2 hk => ?_
  obtain ⟨c, h1, h2, h3⟩ := best_of I rv hd hv r2 hk
  exact ⟨c.1, H, I.kept (t' := tk) hk, h2, q c h1 h3⟩
theorem pre_sum (ns : List Int) : ∀ k, k ≤ ns.length → preSum (fun i => ns.getD i 0) k = (ns.take k).sum
  | 0, _ => by simp [preSum]
  | k + 1, h => by
    have ih := pre_sum ns k (by omega)
    have hk : k < ns.length := by omega
    rw [List.take_add_one, List.getElem?_eq_getElem hk, List.sum_append, ← ih]
    simp [preSum, hk]
def rSumT (K : PySem.W.Frag) : List V → Hp → VK → Prop := fun vs H Q => ∃ (a : Addr) (ns : List Int), vs = [.ref a] ∧ SqT K H a (ns.map V.int) ∧ Q (.int ns.sum) H
/-- sum of a tuple -/
theorem cr_sumT (hc : X.calm = true) : CallR X (.builtin "sum") (rSumT X.K) := by
  intro pins s σ H vs us Q I r h
  obtain ⟨a, ns, rfl, hs, q⟩ := h
  obtain ⟨its, rv, hl, hz⟩ := I.tuple hs
  rw [Vals.ref1 r]
  have el : its.toArray.size = ns.length := by rw [List.size_toArray, ← rv.length, List.length_map]
  refine call_sum_walkAnyS (iter_tupleW (A := X.A.in1) (I.ok.hd hc) (show s.heap.IsTuple a its.toArray from hl) fun s₂ e W st hfp hw hk => ?_)
  refine ⟨_, _, _, _, _, _, _, fun i => ns.getD i 0, rfl, W, st, hfp, fun i v hv => ?_, fun s' t' m => ?_⟩
  · have hv : its[i]? = some v := by simpa using hv
    have hi : i < ns.length := by
      have := (List.getElem?_eq_some_iff.mp hv).1
      rw [← rv.length, List.length_map] at this
      exact this
    obtain ⟨u, h1, h2⟩ := rv.get (i := i) (x := .int ns[i]) (by rw [List.getElem?_map, List.getElem?_eq_getElem hi]; rfl)
    rw [hv] at h1
    cases h1
    obtain ⟨t, rfl⟩ := h2
    exact ⟨t, by simp [hi]⟩
  · obtain ⟨h', tk, rfl, hk'⟩ := moved_old e rfl m
    rw [el, pre_sum ns _ (Nat.le_refl _), List.take_length]
    exact ⟨.int ns.sum, H, I.kept (t' := tk) hk', ⟨_, rfl⟩, q⟩
end
end ZG

set_option linter.all false
set_option maxRecDepth 100000
set_option maxHeartbeats 4000000
/-! dicts whose keys are tuples, nested ones too, wherever the keys' tuples stand: an object of one's own -/
namespace Py
open PySem L2
/-! ### keys without texts: the hash is no world's -/
mutual
def plainK : NestedKey → Bool
  | .none => true
  | .num _ => true
  | .text _ => false
  | .tup ks => plainKs ks
def plainKs : List NestedKey → Bool
  | [] => true
  | k :: ks => plainK k && plainKs ks
end
mutual
theorem hash_free (w w' : World) : ∀ k : NestedKey, plainK k = true → k.hash w = k.hash w'
  | .none, _ => rfl
  | .num _, _ => rfl
  | .text _, h => by cases h
  | .tup ks, h => by
    have h : plainKs ks = true := h
    show reduceHash (Builtin.Tuple.tupleHashOf (NestedKey.hashes w ks)) = reduceHash (Builtin.Tuple.tupleHashOf (NestedKey.hashes w' ks))
    rw [hashes_free w w' ks h]
theorem hashes_free (w w' : World) : ∀ ks : List NestedKey, plainKs ks = true → NestedKey.hashes w ks = NestedKey.hashes w' ks
  | [], _ => rfl
  | k :: ks, h => by
    have h : (plainK k && plainKs ks) = true := h
    rw [Bool.and_eq_true] at h
    show k.hash w :: NestedKey.hashes w ks = k.hash w' :: NestedKey.hashes w' ks
    rw [hash_free w w' k h.1, hashes_free w w' ks h.2]
end
abbrev NK := NestedKey
/-- a key, where its tuple stands, the value -/
abbrev RX := List (NK × Addr × V)
abbrev RY := List (NK × Addr × Value)
abbrev RawV : RX → RY → Prop := Paired fun p q => p.1 = q.1 ∧ p.2.1 = q.2.1 ∧ RelV p.2.2 q.2.2
def entK (P : Program) (w : World) : NK × Addr × Value → DictEntry := entryOfKey (nestedKind P w)
theorem entK_free (P P' : Program) (w w' : World) {x : NK × Addr × Value} (h : plainK x.1 = true) : entK P w x = entK P' w' x := by
  show (⟨x.1.hash w, .ref x.2.1, x.2.2⟩ : DictEntry) = ⟨x.1.hash w', .ref x.2.1, x.2.2⟩
  rw [hash_free w w' x.1 h]
def RawP (a : Addr) (xs : RX) (h : Heap) : Prop :=
  xs.length ≤ sizeLine ∧ (a == sysModules) = false ∧ (xs.map (·.1)).Nodup ∧ (∀ x ∈ xs, plainK x.1 = true) ∧
    ∃ ys, RawV xs ys ∧ ∃ o es ep, h.get? a = some o ∧ o.ExactDict ∧ o.data = .dict es ep ∧ ∀ P w, es.toList = ys.map (entK P w)
def rawO (a : Addr) (xs : RX) : HO := .ext (RawP a xs)
theorem rawO_ok {P : Program} {w : World} {H : Hp} {h : Heap} {a : Addr} {xs : RX} (x : RawP a xs h) : ObjOk P w H h a (rawO a xs) := by
  refine ⟨x, ?_, fun h1 h2 z k => ?_⟩
  · obtain ⟨_, _, _, _, _, _, o, _, _, e, _⟩ := x
    exact ⟨o, e⟩
  · obtain ⟨z1, z2, z3, z4, ys, r, o, es, ep, e, q⟩ := z
    exact ⟨z1, z2, z3, z4, ys, r, o, es, ep, k o e, q⟩
/-- where the keys stand -/
def KeysAt (h : Heap) (xs : RX) : Prop := ∀ x ∈ xs, NestedIs h x.1 (.ref x.2.1) ∧ x.1.depth ≤ 8
def valR (xs : RX) (k : NK) : Option V := (xs.find? fun x => decide (x.1 = k)).map (·.2.2)
def putR (xs : RX) (k : NK) (b : Addr) (v : V) : RX := if (valR xs k).isSome then xs.map fun x => if x.1 = k then (x.1, x.2.1, v) else x else xs ++ [(k, b, v)]
theorem valR_pos {p : NK × Addr × V} {r : RX} {k : NK} (e : p.1 = k) : valR (p :: r) k = some p.2.2 := by simp [valR, List.find?_cons, e]
theorem valR_neg {p : NK × Addr × V} {r : RX} {k : NK} (e : ¬ p.1 = k) : valR (p :: r) k = valR r k := by simp [valR, List.find?_cons, e]
theorem RawV.val {xs : RX} {ys : RY} (r : RawV xs ys) (k : NK) : RelO (valR xs k) ((atKey ys k).map (·.2)) := by
  induction r with
  | nil => exact True.intro
  | @cons p q ps qs h t ih =>
    obtain ⟨h1, h2, h3⟩ := h
    by_cases e : p.1 = k
    · have b : atKey (q :: qs) k = some q.2 := by simp [atKey, List.find?_cons, h1 ▸ e]
      rw [valR_pos e, b]
      exact h3
    · have b : atKey (q :: qs) k = atKey qs k := by simp [atKey, List.find?_cons, show ¬ q.1 = k from fun z => e (h1.trans z)]
      rw [valR_neg e, b]
      exact ih
theorem RawV.put {xs : RX} {ys : RY} (r : RawV xs ys) (k : NK) (b : Addr) {v : V} {u : Value} (rv : RelV v u) : RawV (putR xs k b v) (storedH ys k b u) := by
  have e : (valR xs k).isSome = (atKey ys k).isSome := by
    rw [(r.val k).isSome_eq, Option.isSome_map]
  unfold putR storedH
  rw [e]
  split
  · clear e
    induction r with
    | nil => exact .nil
    | @cons p q ps qs h t ih =>
      rename_i hs
      rw [List.map_cons, List.map_cons]
      have hall : RawV (ps.map fun x => if x.1 = k then (x.1, x.2.1, v) else x) (qs.map (putAt k u)) := by
        clear ih hs h
        induction t with
        | nil => exact .nil
        | @cons p q ps qs h t ih =>
          rw [List.map_cons, List.map_cons]
          refine .cons ?_ ih
          obtain ⟨h1, h2, h3⟩ := h
          unfold putAt
          by_cases e : p.1 = k
          · rw [if_pos e, if_pos (h1.symm.trans e)]; exact ⟨h1, h2, rv⟩
          · rw [if_neg e, if_neg fun z => e (h1.trans z)]; exact ⟨h1, h2, h3⟩
      refine .cons ?_ hall
      obtain ⟨h1, h2, h3⟩ := h
      unfold putAt
      by_cases e : p.1 = k
      · rw [if_pos e, if_pos (h1.symm.trans e)]; exact ⟨h1, h2, rv⟩
      · rw [if_neg e, if_neg fun z => e (h1.trans z)]; exact ⟨h1, h2, h3⟩
  · exact Paired.snoc r ⟨rfl, rfl, rv⟩
theorem RawV.keys {xs : RX} {ys : RY} (r : RawV xs ys) : xs.map (·.1) = ys.map (·.1) := by
  induction r with
  | nil => rfl
  | cons h t ih => rw [List.map_cons, List.map_cons, h.1, ih]
theorem valR_mem {xs : RX} {k : NK} (h : valR xs k = none) : ¬ k ∈ xs.map (·.1) := by
  intro hm
  obtain ⟨x, hx, e⟩ := List.mem_map.mp hm
  unfold valR at h
  have := List.find?_eq_none.mp (Option.map_eq_none_iff.mp h) x hx
  exact this (by simp [e])
theorem putR_len (xs : RX) (k : NK) (b : Addr) (v : V) : (putR xs k b v).length ≤ xs.length + 1 := by
  unfold putR
  split
  · rw [List.length_map]; omega
  · rw [List.length_append]; exact Nat.le_refl _
theorem putR_keys (xs : RX) (k : NK) (b : Addr) (v : V) : (putR xs k b v).map (·.1) = if (valR xs k).isSome then xs.map (·.1) else xs.map (·.1) ++ [k] := by
  unfold putR
  split
  · rw [List.map_map]
    refine List.map_congr_left fun x _ => ?_
    show (if x.1 = k then (x.1, x.2.1, v) else x).1 = x.1
    split <;> rfl
  · rw [List.map_append]; rfl
theorem putR_mem {xs : RX} {k : NK} {b : Addr} {v : V} {x : NK × Addr × V} (h : x ∈ putR xs k b v) : (∃ y ∈ xs, x.1 = y.1 ∧ x.2.1 = y.2.1) ∨ (x.1 = k ∧ x.2.1 = b) := by
  unfold putR at h
  split at h
  · obtain ⟨y, hy, e⟩ := List.mem_map.mp h
    refine .inl ⟨y, hy, ?_⟩
    subst e
    split <;> exact ⟨rfl, rfl⟩
  · rcases List.mem_append.mp h with h | h
    · exact .inl ⟨x, h, rfl, rfl⟩
    · have := List.mem_singleton.mp h
      subst this
      exact .inr ⟨rfl, rfl⟩
theorem nk_room {A : Around} (h : A.units + 64 < cLine) {P : Program} {w : World} : (nestedKind P w).room A.in1 := by
  show A.in1.units + 8 < cLine
  have : A.in1.units ≤ A.units + 1 := Nat.le_of_eq rfl
  omega
section
variable {X : Cx} {pins : List (Addr × Obj)} {σ : St} {H : Hp} {s : Shared} {a b : Addr} {k : NK} {xs : RX} {A : Around} {E : Value → Shared → Prop}
theorem raw_rd (I : Inv X pins σ H s) (e : Rd H a (rawO a xs)) (hk : KeysAt s.heap xs) : xs.length ≤ sizeLine ∧ (a == sysModules) = false ∧ (∀ x ∈ xs, plainK x.1 = true) ∧ ∃ ys, RawV xs ys ∧ s.heap.DictOfH (nestedKind X.prog X.w) a ys := by
  obtain ⟨⟨z1, z2, z3, z4, ys, r, o, es, ep, e1, e2, e3, e4⟩, oo⟩ := (show ObjOk X.prog X.w H s.heap a (rawO a xs) from rd_of I.hok e)
  refine ⟨z1, z2, z4, ys, r, o, es, ep, e1, e2, e3, e4 X.prog X.w, ?_, by rw [← r.keys]; exact z3⟩
  clear oo e1 e2 e3 e4 z1 z3 z4 e
  induction r with
  | nil => intro x hx; exact nomatch hx
  | @cons p q ps qs h t ih =>
    intro x hx
    rcases List.mem_cons.mp hx with rfl | hx
    · have := hk p List.mem_cons_self
      rw [h.1, h.2.1] at this
      exact this
    · exact ih (fun y hy => hk y (List.mem_cons_of_mem _ hy)) x hx
theorem raw_get {v : V} {Q : Value → Shared → Prop} (hu : A.units + 64 < cLine) (I : Inv X pins σ H s) (e : Rd H a (rawO a xs)) (hk : KeysAt s.heap xs) (kb : NestedIs s.heap k (.ref b) ∧ k.depth ≤ 8) (l : valR xs k = some v)
    (h : ∀ w' s', Inv X pins σ H s' → RelV v w' → Q w' s') : wpAny (model X.prog X.w) A (getItem (.ref a) (.ref b)) Q E s := by
  obtain ⟨_, _, _, ys, rel, dd⟩ := raw_rd I e hk
  obtain ⟨w', hw, rw'⟩ := RelO.some_of (v := v) (o := (atKey ys k).map (·.2)) (by rw [← l]; exact rel.val k)
  obtain ⟨p, hp, hp2⟩ := Option.map_eq_some_iff.mp hw
  refine wpAny_getItem_heap (nk_room hu) kb dd hp ?_
  rw [hp2]
  exact h w' _ (I.tok _) rw'
theorem raw_in {Q : Value → Shared → Prop} (hu : A.units + 64 < cLine) (I : Inv X pins σ H s) (e : Rd H a (rawO a xs)) (hk : KeysAt s.heap xs) (kb : NestedIs s.heap k (.ref b) ∧ k.depth ≤ 8)
    (h : ∀ s', Inv X pins σ H s' → Q (.bool (valR xs k).isSome) s') : wpAny (model X.prog X.w) A (compareOp .In (.ref b) (.ref a)) Q E s := by
  obtain ⟨_, hd, _, ys, rel, dd⟩ := raw_rd I e hk
  refine wpAny_in_heap (nk_room hu) kb hd dd ?_
  have q := (rel.val k).isSome_eq
  rw [Option.isSome_map] at q
  rw [← q]
  exact h _ (I.tok _)
theorem raw_notIn {Q : Value → Shared → Prop} (hu : A.units + 64 < cLine) (I : Inv X pins σ H s) (e : Rd H a (rawO a xs)) (hk : KeysAt s.heap xs) (kb : NestedIs s.heap k (.ref b) ∧ k.depth ≤ 8)
    (h : ∀ s', Inv X pins σ H s' → Q (.bool (!(valR xs k).isSome)) s') : wpAny (model X.prog X.w) A (compareOp .NotIn (.ref b) (.ref a)) Q E s := by
  obtain ⟨_, hd, _, ys, rel, dd⟩ := raw_rd I e hk
  refine PyProof.Rows.wpAny_notIn_heap (nk_room hu) kb hd dd ?_
  have q := (rel.val k).isSome_eq
  rw [Option.isSome_map] at q
  rw [← q]
  exact h _ (I.tok _)
theorem raw_get2 {d : V} {r : Value} {Q : Value → Shared → Prop} (hu : A.units + 64 < cLine) (I : Inv X pins σ H s) (e : Rd H a (rawO a xs)) (hk : KeysAt s.heap xs) (kb : NestedIs s.heap k (.ref b) ∧ k.depth ≤ 8) (rd : RelV d r)
    (h : ∀ w' s', Inv X pins σ H s' → RelV ((valR xs k).getD d) w' → Q w' s') : wpAny (model X.prog X.w) A (call (.builtin "dict.get") [.ref a, .ref b, r]) Q E s := by
  obtain ⟨_, hd, _, ys, rel, dd⟩ := raw_rd I e hk
  have hT : s.TypeIs (.ref a) "dict" := by
    obtain ⟨o, _, _, h1, h2, _⟩ := dd
    exact ⟨o, h1, h2.1⟩
  exact call_meetsIn PySem.F.slot_dict_get hT PySem.F.entry_dict_get (PySem.F.args_dict_get_3 _ _ _) (meetsH_dict_get_default (nestedKind X.prog X.w) a b hd r) ⟨nk_room hu, k, ys, kb, dd, h _ _ (I.tok _) ((rel.val k).getD rd)⟩
theorem raw_set {v : V} {r : Value} {Q : Unit → Shared → Prop} (hu : A.units + 64 < cLine) (I : Inv X pins σ H s) (e : H a = some (rawO a xs)) (hk : KeysAt s.heap xs) (kb : NestedIs s.heap k (.ref b) ∧ k.depth ≤ 8) (pk : plainK k = true) (hl : xs.length < sizeLine) (rv : RelV v r)
    (h : ∀ s', Inv X pins σ (upd H a (rawO a (putR xs k b v))) s' → Q () s') : wpAny (model X.prog X.w) A (setItem (.ref a) (.ref b) r) Q E s := by
  obtain ⟨z, hd, pl, ys, rel, dd⟩ := raw_rd I (.inl e) hk
  have nd : (xs.map (·.1)).Nodup := by
    obtain ⟨_, _, _, _, _, _, _, _, nd⟩ := dd
    rw [rel.keys]
    exact nd
  have hz : ys.length ≤ sizeLine := by rw [← Paired.length rel]; exact z
  refine wpAny_setItem_heap (hsz := hz) (nk_room hu) kb dd fun h' dd' hs => h _ ?_
  obtain ⟨q, es, ep, hq, h2, h3, h4, _, h5⟩ := dd'
  refine d_write I (by rw [e]; exact True.intro) hs ⟨q, hq⟩ (rawO_ok ⟨by have := putR_len xs k b v; omega, hd, ?_, ?_, _, rel.put k b rv, q, es, ep, hq, h2, h3, fun P w => ?_⟩)
  · rw [(rel.put k b rv).keys]
    exact h5
  · intro x hx
    rcases putR_mem hx with ⟨y, hy, e1, _⟩ | ⟨e1, _⟩
    · rw [e1]; exact pl y hy
    · rw [e1]; exact pk
  · rw [h4]
    refine List.map_congr_left fun x hx => entK_free _ _ _ _ ?_
    have hm : x.1 ∈ (putR xs k b v).map (·.1) := by
      rw [(rel.put k b rv).keys]
      exact List.mem_map.mpr ⟨x, hx, rfl⟩
    obtain ⟨y, hy, e1⟩ := List.mem_map.mp hm
    rw [← e1]
    rcases putR_mem hy with ⟨y2, hy2, e2, _⟩ | ⟨e2, _⟩
    · rw [e2]; exact pl y2 hy2
    · rw [e2]; exact pk
end
theorem raw_empty {P : Program} {w : World} {H : Hp} (h : Heap) (hb : sysModules < h.objs.size) : ObjOk P w H (h.push { cls := .type "dict", data := .dict #[] }) h.objs.size (rawO h.objs.size []) :=
  rawO_ok ⟨Nat.zero_le _, beq_eq_false_iff_ne.mpr (Ne.symm (Nat.ne_of_lt hb)), List.nodup_nil, fun x hx => (nomatch hx), [], .nil, _, #[], 0, Heap.get?_push_size _ rfl, ⟨rfl, rfl, rfl⟩, rfl, fun _ _ => rfl⟩
end Py

set_option linter.all false
/-! Py: a small evaluator of the part of Python that the given package uses: values as trees, a store of the lists and dicts that a name holds and that change. -/
namespace Py

inductive PV where
  | non | bl (b : Bool) | int (i : Int) | str (x : List Nat) | tup (vs : List PV) | lst (vs : List PV) | dic (t : Bool) (ks vs : List PV) | scr (vs : List PV) | cel (a : Nat)

/-- a value at hand: a tree, a cell of the store, or a tree that nobody else holds -/
inductive EV where
  | v (x : PV) | r (a : Nat) | n (x : PV)
/-- a cell of the store: it may change; it is being walked; it is no more -/
inductive Cell where
  | live (x : PV) | lock (x : PV) | dead
abbrev Store := List Cell
abbrev Env := List (Option EV)
/-- what a call gives -/
inductive RV where
  | v (x : PV) | own (x : PV)

inductive BOp where | add | sub | mul | fdiv | mod | pow | shl
inductive COp where | lt | le | gt | ge | eq | ne | is | isnot | inn | notin
inductive Bi where | len | abs | min2 | max2 | minL | maxL | sum | all | any | int | str | tuple | list | sorted
inductive Ty where | int | bool | str | tuple | list | dict
inductive Me where | join | index | count | bits | split | get2 | keys0
inductive Tg where | nm (i : Nat) | tp (ts : List Tg)

inductive Ex where
  | var (i : Nat) | frz (i : Nat)
  | cst (c : PV)
  | glo (g : Nat)
  | bin (op : BOp) (a b : Ex)
  | neg (a : Ex) | no (a : Ex)
  | cmp (op : COp) (a b : Ex)
  | cmp2 (op op' : COp) (a b c : Ex)
  | bop (isAnd : Bool) (es : List Ex)
  | ife (c a b : Ex)
  | tup (es : List Ex) | lst (es : List Ex)
  | ix (a b : Ex) | dix (a b : Ex)
  | sl (a : Ex) (lo hi : Option Ex)
  | rev (a : Ex)
  | call (f : Nat) (es : List Ex)
  | callS (f : Nat) (es : List Ex)
  | callK (f : Nat) (ks : List Nat) (es : List Ex)
  | bi (b : Bi) (es : List Ex)
  | isi (a : Ex) (ts : List Ty)
  | me (m : Me) (o : Ex) (es : List Ex)
  | comp (own : List Nat) (tg : Tg) (it : Ex) (cond : Option Ex) (elt : Ex)
  | val (e : Ex) | rng (es : List Ex) | enum (e : Ex) | zip (a b : Ex) | items (e : Ex) | values (e : Ex)
  | dsp (t : Bool) (ks vs : List Ex)
  | mk (e : Ex)
  | pop (i : Nat)
  | gdx (g : Nat) (e : Ex)
  | gin (neg : Bool) (g : Nat) (e : Ex)
  | heard (f : Nat) (es : List Ex)

inductive Stm where
  | expr (e : Ex)
  | app (x : Nat) (e : Ex) | ext (x : Nat) (e : Ex) | appx (o : Ex) (e : Ex)
  | set (x : Nat) (e : Ex)
  | tset (t : Tg) (e : Ex)
  | par (xs : List Nat) (es : List Ex)
  | aug (x : Nat) (op : BOp) (e : Ex)
  | augi (x : Nat) (i : Ex) (op : BOp) (e : Ex)
  | seti (x : Nat) (i : Ex) (e : Ex)
  | ret (e : Ex) | retN
  | ife (c : Ex) (a b : List Stm)
  | forr (t : Tg) (it : Ex) (body : List Stm)
  | whil (c : Ex) (body : List Stm)
  | brk | cont | pass | never
  | rais (c : Nat) | tryc (f : Nat) (es : List Ex) (c : Nat) (a : PV)

inductive Fl where
  | next | brk | cont | ret (v : EV) | exc (c : Nat)

def line : Nat := 16777216

/-! ### equality, depth -/
mutual
def eqP : PV → PV → Bool
  | .non, .non => true
  | .bl a, .bl b => a == b
  | .bl a, .int j => (if a then 1 else 0) == j
  | .int i, .bl b => i == (if b then 1 else 0)
  | .int i, .int j => decide (i = j)
  | .str x, .str y => x == y
  | .tup xs, .tup ys => eqPs xs ys
  | .lst xs, .lst ys => eqPs xs ys
  | _, _ => false
def eqPs : List PV → List PV → Bool
  | [], [] => true
  | x :: xs, y :: ys => eqP x y && eqPs xs ys
  | _, _ => false
end
mutual
def dep : PV → Nat
  | .tup xs => deps xs + 1
  | .lst xs => deps xs + 1
  | .dic _ _ _ => 1000
  | .scr _ => 1000
  | .cel _ => 1000
  | _ => 0
def deps : List PV → Nat
  | [] => 0
  | x :: xs => max (dep x) (deps xs)
end
/-! no list or dict within -/
mutual
def noL : PV → Bool
  | .tup xs => noLs xs
  | .lst _ => false
  | .dic _ _ _ => false
  | .scr _ => false
  | .cel _ => false
  | _ => true
def noLs : List PV → Bool
  | [] => true
  | x :: xs => noL x && noLs xs
end
/-! no cell within -/
mutual
def noC : PV → Bool
  | .tup xs => noCs xs
  | .lst xs => noCs xs
  | .dic _ _ vs => noCs vs
  | .scr xs => noCs xs
  | .cel _ => false
  | _ => true
def noCs : List PV → Bool
  | [] => true
  | x :: xs => noC x && noCs xs
end
def eqOk (a b : PV) : Bool := Nat.ble (dep b) 60 && Nat.ble (dep a) 60

/-! ### operators by values -/
def mulOk (i j : Int) : Bool := Nat.blt i.natAbs 18446744073709551616 || (Nat.blt j.natAbs 18446744073709551616 || Nat.blt (Nat.log2 i.natAbs + Nat.log2 j.natAbs) 1000000)
def binI (op : BOp) (i j : Int) : Option PV := match op with
  | .add => some (.int (i + j))
  | .sub => some (.int (i - j))
  | .mul => if mulOk i j then some (.int (i * j)) else none
  | .fdiv => if (!(decide (j = 0)) && Nat.blt (Nat.log2 j.natAbs) 9000) then some (.int (i.fdiv j)) else none
  | .mod => if !(decide (j = 0)) then some (.int (i.fmod j)) else none
  | .pow => if (decide (0 ≤ j) && decide (j ≤ 1000000) && Nat.blt i.natAbs (2 ^ 64)) then some (.int (i ^ j.toNat)) else none
  | .shl => if (decide (0 ≤ j) && decide (j ≤ 1000000) && Nat.blt i.natAbs (2 ^ 64)) then some (.int (i * 2 ^ j.toNat)) else none
def binop (op : BOp) : PV → PV → Option EV
  | .int i, .int j => (binI op i j).map .v
  | .str x, .str y => match op with
    | .add => if Nat.ble (x.length + y.length) line then some (.v (.str (x ++ y))) else none
    | _ => none
  | .lst x, .lst y => match op with
    | .add => if Nat.ble (x.length + y.length) line then some (.n (.lst (x ++ y))) else none
    | _ => none
  | .tup x, .tup y => match op with
    | .add => if Nat.ble (x.length + y.length) line then some (.v (.tup (x ++ y))) else none
    | _ => none
  | .lst x, .int k => match op with
    | .mul => if (decide (-(2 ^ 62) ≤ k) && decide (k < 2 ^ 62) && Nat.ble (x.length * k.toNat) line) then some (.n (.lst (List.replicate k.toNat x).flatten)) else none
    | _ => none
  | .str x, .int k => match op with
    | .mul => if (decide (-(2 ^ 62) ≤ k) && decide (k < 2 ^ 62) && Nat.ble (x.length * k.toNat) line) then some (.v (.str (List.replicate k.toNat x).flatten)) else none
    | _ => none
  | _, _ => none
/-- order of tuples of ints -/
def lexLt : List PV → List PV → Option Bool
  | [], [] => some false
  | [], .int _ :: _ => some true
  | .int _ :: _, [] => some false
  | .int x :: xs, .int y :: ys => if x = y then lexLt xs ys else some (decide (x < y))
  | _, _ => none
def cmpI (op : COp) (i j : Int) : Option Bool := match op with
  | .lt => some (decide (i < j))
  | .le => some (decide (i ≤ j))
  | .gt => some (decide (j < i))
  | .ge => some (decide (j ≤ i))
  | .eq => some (decide (i = j))
  | .ne => some (!decide (i = j))
  | _ => none
def flat : PV → Bool
  | .non | .bl _ | .int _ | .str _ => true
  | _ => false
/-- what may be a key: an int or a text; a tuple of such -/
def isKey : PV → Bool
  | .int _ => true
  | .str _ => true
  | _ => false
mutual
def isNK : PV → Bool
  | .int _ => true
  | .non => true
  | .tup xs => isNKs xs
  | _ => false
def isNKs : List PV → Bool
  | [] => true
  | x :: xs => isNK x && isNKs xs
end
/-- a key of ints, of None and of such tuples -/
def isKeyT : PV → Bool
  | .tup xs => isNK (.tup xs) && Nat.ble (dep (.tup xs)) 8
  | _ => false
def keyOk : Bool → PV → Bool
  | false, x => isKey x
  | true, x => isKeyT x
def dget : List PV → List PV → PV → Option PV
  | k :: ks, v :: vs, x => if eqP k x then some v else dget ks vs x
  | _, _, _ => none
def intsOf : List PV → Option (List Int)
  | [] => some []
  | .int i :: xs => (intsOf xs).map (i :: ·)
  | _ => none
/-- order of tuples of ints -/
def lexC (r : Int → Int → Bool) (z : Nat → Nat → Bool) : List Int → List Int → Bool
  | x :: xs, y :: ys => if x = y then lexC r z xs ys else r x y
  | xs, ys => z xs.length ys.length
def cmpTup (op : COp) (ns ms : List Int) : Option Bool := match op with
  | .lt => some (lexC (fun a b => decide (a < b)) (fun a b => decide (a < b)) ns ms)
  | .le => some (lexC (fun a b => decide (a ≤ b)) (fun a b => decide (a ≤ b)) ns ms)
  | .gt => some (lexC (fun a b => decide (b < a)) (fun a b => decide (a > b)) ns ms)
  | .ge => some (lexC (fun a b => decide (b ≤ a)) (fun a b => decide (a ≥ b)) ns ms)
  | _ => none
def cmpop (op : COp) (a b : PV) : Option Bool := match op with
  | .eq => if eqOk a b then some (eqP a b) else none
  | .ne => if eqOk a b then some (!eqP a b) else none
  | .is => match b with
    | .non => match a with
      | .non => some true
      | _ => some false
    | .bl q => match a with
      | .bl p => some (decide (p = q))
      | _ => none
    | _ => none
  | .isnot => match b with
    | .non => match a with
      | .non => some false
      | _ => some true
    | .bl q => match a with
      | .bl p => some (!decide (p = q))
      | _ => none
    | _ => none
  | .inn => match a, b with
    | .str [c], .str z => some (decide (c ∈ z))
    | a, .tup xs => if flat a && xs.all flat then some (xs.any fun y => eqP y a) else none
    | a, .lst xs => if flat a && xs.all flat then some (xs.any fun y => eqP y a) else none
    | a, .dic t ks vs => if keyOk t a then some (dget ks vs a).isSome else none
    | _, _ => none
  | .notin => match a, b with
    | .str [c], .str z => some (!decide (c ∈ z))
    | a, .tup xs => if flat a && xs.all flat then some (!xs.any fun y => eqP y a) else none
    | a, .lst xs => if flat a && xs.all flat then some (!xs.any fun y => eqP y a) else none
    | a, .dic t ks vs => if keyOk t a then some (!(dget ks vs a).isSome) else none
    | _, _ => none
  | op => match a, b with
    | .int i, .int j => cmpI op i j
    | .tup xs, .tup ys => match intsOf xs with
      | some ns => match intsOf ys with
        | some ms => cmpTup op ns ms
        | none => none
      | none => none
    | _, _ => none
def truth : PV → Bool
  | .non => false
  | .bl b => b
  | .int i => !decide (i = 0)
  | .str x => !x.isEmpty
  | .tup x => !x.isEmpty
  | .lst x => !x.isEmpty
  | .dic _ x _ => !x.isEmpty
  | .scr x => !x.isEmpty
  | .cel _ => true
def pyIx (n : Nat) (i : Int) : Option Nat := if 0 ≤ i then (if i < n then some i.toNat else none) else if -(n : Int) ≤ i then some (i + n).toNat else none
def sIx (n d : Nat) : Option Int → Nat
  | none => d
  | some v => if v < 0 then (v + (n : Int)).toNat else min v.toNat n
def cut {α : Type} (xs : List α) (lo hi : Option Int) : List α := (xs.drop (sIx xs.length 0 lo)).take (sIx xs.length xs.length hi - sIx xs.length 0 lo)
def dmap : List PV → List PV → PV → PV → List PV
  | k :: ks, v :: vs, x, y => (if eqP k x then y else v) :: dmap ks vs x y
  | _, vs, _, _ => vs
def dput (ks vs : List PV) (x y : PV) : List PV × List PV := if ks.any (fun k => eqP k x) then (ks, dmap ks vs x y) else (ks ++ [x], vs ++ [y])
def dputs (ks vs : List PV) : List PV → List PV → List PV × List PV
  | x :: xs, y :: ys => dputs (dput ks vs x y).1 (dput ks vs x y).2 xs ys
  | _, _ => (ks, vs)
def ixP : PV → PV → Option PV
  | .lst xs, .int i => (pyIx xs.length i).bind fun j => xs[j]?
  | .tup xs, .int i => (pyIx xs.length i).bind fun j => xs[j]?
  | .scr xs, .int i => (pyIx xs.length i).bind fun j => xs[j]?
  | .str xs, .int i => (pyIx xs.length i).bind fun j => (xs[j]?).map fun c => .str [c]
  | _, _ => none
def dixP : PV → PV → Option PV
  | .dic t ks vs, x => if keyOk t x then dget ks vs x else none
  | _, _ => none
def ixC (c k : PV) : Option PV := match c with
  | .dic t ks vs => if keyOk t k then dget ks vs k else none
  | c => ixP c k
def slP : PV → Option Int → Option Int → Option EV
  | .lst xs, lo, hi => some (.n (.lst (cut xs lo hi)))
  | .scr xs, lo, hi => some (.n (.lst (cut xs lo hi)))
  | .tup xs, lo, hi => some (.v (.tup (cut xs lo hi)))
  | .str xs, lo, hi => some (.v (.str (cut xs lo hi)))
  | _, _, _ => none
def revP : PV → Option EV
  | .lst xs => some (.n (.lst xs.reverse))
  | .tup xs => some (.v (.tup xs.reverse))
  | .str xs => some (.v (.str xs.reverse))
  | _ => none
def strsOf : List PV → Option (List (List Nat))
  | [] => some []
  | .str i :: xs => (strsOf xs).map (i :: ·)
  | _ => none
def blsOf : List PV → Option (List Bool)
  | [] => some []
  | .bl i :: xs => (blsOf xs).map (i :: ·)
  | _ => none
def minI : Int → List Int → Int
  | m, [] => m
  | m, x :: xs => minI (if x < m then x else m) xs
def maxI : Int → List Int → Int
  | m, [] => m
  | m, x :: xs => maxI (if m < x then x else m) xs
def seqOf : PV → Option (List PV)
  | .lst xs => some xs
  | .tup xs => some xs
  | _ => none
def insI (x : Int) : List Int → List Int
  | [] => [x]
  | y :: ys => if x ≤ y then x :: y :: ys else y :: insI x ys
def sortI : List Int → List Int
  | [] => []
  | x :: xs => insI x (sortI xs)
/-! order of trees of one shape -/
mutual
def tok : PV → List (Int ⊕ List Nat)
  | .bl b => [.inl (if b = true then 1 else 0)]
  | .int n => [.inl n]
  | .str x => [.inr x]
  | .tup xs => toks xs
  | .lst xs => toks xs
  | _ => []
def toks : List PV → List (Int ⊕ List Nat)
  | [] => [.inl 0]
  | x :: xs => .inl 1 :: (tok x ++ toks xs)
end
def ltN : List Nat → List Nat → Bool
  | [], [] => false
  | [], _ :: _ => true
  | _ :: _, [] => false
  | x :: xs, y :: ys => Nat.blt x y || (!Nat.blt y x && ltN xs ys)
def ltI : Int ⊕ List Nat → Int ⊕ List Nat → Bool
  | .inl a, .inl b => decide (a < b)
  | .inl _, .inr _ => true
  | .inr _, .inl _ => false
  | .inr a, .inr b => ltN a b
def ltT : List (Int ⊕ List Nat) → List (Int ⊕ List Nat) → Bool
  | [], [] => false
  | [], _ :: _ => true
  | _ :: _, [] => false
  | x :: r, y :: t => ltI x y || (!ltI y x && ltT r t)
def ltP (x y : PV) : Bool := ltT (tok x) (tok y)
mutual
def sameSh : PV → PV → Bool
  | .bl _, .bl _ => true
  | .int _, .int _ => true
  | .str _, .str _ => true
  | .tup xs, .tup ys => sameShs xs ys
  | _, _ => false
def sameShs : List PV → List PV → Bool
  | [], [] => true
  | x :: xs, y :: ys => sameSh x y && sameShs xs ys
  | _, _ => false
end
def headOk : PV → Bool
  | .bl _ | .int _ | .str _ | .tup (_ :: _) => true
  | _ => false
def likes : List PV → Bool
  | [] => true
  | x :: r => sameSh x x && (r.all (sameSh x) && headOk x)
def insP (x : PV) : List PV → List PV
  | [] => [x]
  | y :: ys => if ltP y x then y :: insP x ys else x :: y :: ys
def sortP : List PV → List PV
  | [] => []
  | x :: xs => insP x (sortP xs)
def sortD (xs : List PV) : Option (List PV) := if likes xs && Nat.ble (deps xs) 50 then some (sortP xs) else none
def minP (x : PV) (r : List PV) : PV := r.foldl (fun a y => if ltP y a then y else a) x
def maxP (x : PV) (r : List PV) : PV := r.foldl (fun a y => if ltP a y then y else a) x
def bestD (f : PV → List PV → PV) : List PV → Option PV
  | [] => none
  | x :: r => if likes (x :: r) && Nat.ble (deps (x :: r)) 50 then some (f x r) else none
def strI (i : Int) : List Nat := if i < 0 then 45 :: (Nat.toDigits 10 i.natAbs).map Char.toNat else (Nat.toDigits 10 i.natAbs).map Char.toNat
def biF : Bi → List PV → Option EV
  | .len, [.str x] => some (.v (.int x.length))
  | .len, [.lst x] => some (.v (.int x.length))
  | .len, [.tup x] => some (.v (.int x.length))
  | .len, [.scr x] => some (.v (.int x.length))
  | .len, [.dic false x _] => some (.v (.int x.length))
  | .abs, [.int i] => some (.v (.int (if i < 0 then -i else i)))
  | .min2, [.int i, .int j] => some (.v (.int (if j < i then j else i)))
  | .max2, [.int i, .int j] => some (.v (.int (if j > i then j else i)))
  | .int, [.int i] => some (.v (.int i))
  | .int, [.bl b] => some (.v (.int (if b then 1 else 0)))
  | .str, [.int i] => if (Nat.blt i.natAbs.log2 1900 && Nat.ble (strI i).length line) then some (.v (.str (strI i))) else none
  | .str, [.str x] => some (.v (.str x))
  | .tuple, [.lst x] => some (.v (.tup x))
  | .tuple, [.tup x] => some (.v (.tup x))
  | .list, [.lst x] => some (.n (.lst x))
  | .list, [.tup x] => some (.n (.lst x))
  | .sum, [.lst x] => (intsOf x).map fun ns => .v (.int ns.sum)
  | .sum, [.tup x] => (intsOf x).map fun ns => .v (.int ns.sum)
  | .all, [.lst x] => (blsOf x).map fun ns => .v (.bl (ns.all id))
  | .any, [.lst x] => (blsOf x).map fun ns => .v (.bl (ns.any id))
  | .minL, [.lst x] => match intsOf x with
    | some [] => none
    | some (m :: r) => some (.v (.int (minI m r)))
    | none => (bestD minP x).map .v
  | .maxL, [.lst x] => match intsOf x with
    | some [] => none
    | some (m :: r) => some (.v (.int (maxI m r)))
    | none => (bestD maxP x).map .v
  | .sorted, [.lst x] => match intsOf x with
    | some ns => some (.n (.lst ((sortI ns).map .int)))
    | none => (sortD x).map fun ys => .n (.lst ys)
  | _, _ => none
def isT : Ty → PV → Bool
  | .int, .int _ => true
  | .int, .bl _ => true
  | .bool, .bl _ => true
  | .str, .str _ => true
  | .tuple, .tup _ => true
  | .list, .lst _ => true
  | .list, .scr _ => true
  | .dict, .dic _ _ _ => true
  | _, _ => false
def joinS (sep : List Nat) : List (List Nat) → List Nat
  | [] => []
  | [x] => x
  | x :: y :: r => x ++ (sep ++ joinS sep (y :: r))
def idxN (c : Nat) : List Nat → Nat → Option Nat
  | [], _ => none
  | x :: xs, k => if x = c then some k else idxN c xs (k + 1)
def sumL (xs : List (List Nat)) : Nat := (xs.map List.length).sum
/-- cut at each c -/
def splC (c : Nat) : List Nat → List Nat → List (List Nat)
  | acc, [] => [acc]
  | acc, x :: r => if x = c then acc :: splC c [] r else splC c (acc ++ [x]) r
def meF : Me → PV → List PV → Option EV
  | .join, .str sep, [.lst x] => match strsOf x with
    | some ys => if Nat.ble (sumL ys + ys.length * sep.length) line then some (.v (.str (joinS sep ys))) else none
    | none => none
  | .join, .str sep, [.tup x] => match strsOf x with
    | some ys => if Nat.ble (sumL ys + ys.length * sep.length) line then some (.v (.str (joinS sep ys))) else none
    | none => none
  | .index, .str z, [.str [c]] => match idxN c z 0 with
    | some k => some (.v (.int k))
    | none => none
  | .bits, .int i, [] => some (.v (.int (if i = 0 then 0 else (i.natAbs.log2 + 1 : Nat))))
  | .split, .str z, [.str [c]] => if (Nat.blt c 128 && Nat.ble (z.length + 2) line) then some (.n (.lst ((splC c [] z).map .str))) else none
  | _, _, _ => none

/-! ### the store -/
def rd (S : Store) : EV → Option PV
  | .v x => some x
  | .n x => some x
  | .r a => match S[a]? with
    | some (.live x) => some x
    | some (.lock x) => some x
    | _ => none
/-- .. for a test: no dict -/
def rdT (S : Store) (x : EV) : Option PV := match rd S x with
  | some (.dic _ _ _) => none
  | some (.cel _) => none
  | o => o
/-- a value that may stand within another one -/
def stor : EV → Option PV
  | .v x => some x
  | .n x => some x
  | .r a => some (.cel a)
/-- .. and out of one -/
def toR : PV → EV
  | .cel a => .r a
  | x => .v x
def isR : EV → Bool
  | .r _ => true
  | _ => false
def ofR : RV → EV
  | .v x => .v x
  | .own x => .n x
def noLr : RV → Bool
  | .v x => noL x
  | .own (.lst xs) => noLs xs
  | .own _ => false
def mapO {α β : Type} (f : α → Option β) : List α → Option (List β)
  | [] => some []
  | x :: xs => match f x with
    | some y => match mapO f xs with
      | some ys => some (y :: ys)
      | none => none
    | none => none
/-! targets -/
mutual
def asg : Tg → PV → Env → Option Env
  | .nm i, x, E => some (E.set i (some (toR x)))
  | .tp ts, .tup xs, E => asgs ts xs E
  | .tp ts, .lst xs, E => asgs ts xs E
  | _, _, _ => none
def asgs : List Tg → List PV → Env → Option Env
  | [], [], E => some E
  | t :: ts, x :: xs, E => match asg t x E with
    | some E1 => asgs ts xs E1
    | none => none
  | _, _, _ => none
end
def wipe (E : Env) : List Nat → Env
  | [] => E
  | v :: vs => (wipe E vs).set v none
def rangeL (lo : Int) : Nat → List PV
  | 0 => []
  | n + 1 => .int lo :: rangeL (lo + 1) n
def enumL (i : Int) : List PV → List PV
  | [] => []
  | x :: xs => .tup [.int i, x] :: enumL (i + 1) xs
def zipL : List PV → List PV → List PV
  | x :: xs, y :: ys => .tup [x, y] :: zipL xs ys
  | _, _ => []
def rngP : List PV → Option (List PV)
  | [.int n] => if (decide (-(2 ^ 62) ≤ n) && decide (n < 2 ^ 62)) then some (rangeL 0 n.toNat) else none
  | [.int a, .int b] => if (decide (-(2 ^ 62) ≤ a) && decide (a < 2 ^ 62) && decide (-(2 ^ 62) ≤ b) && decide (b < 2 ^ 62)) then some (rangeL a (b - a).toNat) else none
  | _ => none
/-- the items of what is walked -/
def itemsOf : PV → Option (List PV)
  | .lst xs => some xs
  | .tup xs => some xs
  | .str xs => some (xs.map fun c => .str [c])
  | _ => none
/-- the level's calls -/
abbrev Ora := Nat → List EV → Store → Option (RV × Store)
/-- a call without a store: the cells are lent -/
def noCr : RV → Bool
  | .v x => noC x
  | .own x => noC x
def callP (C : Ora) (f : Nat) (vs : List EV) (S : Store) : Option EV := match mapO (rd S) vs with
  | some xs => match noCs xs with
    | true => match C f (xs.map .v) [] with
      | some (rv, _) => if (noCr rv && (!(vs.any isR) || noLr rv)) then some (ofR rv) else none
      | none => none
    | false => none
  | none => none
def lock (S : Store) : EV → Store
  | .r a => match S[a]? with
    | some (.live x) => S.set a (.lock x)
    | _ => S
  | _ => S
/-- .. as it stood in S1 -/
def unlock (S S1 : Store) : EV → Store
  | .r a => match S1[a]? with
    | some (.live x) => S.set a (.live x)
    | _ => S
  | _ => S
/-- how the values of keywords stand in the parameters' order: ks tells for each parameter the place among the written ones -/
def reorder (ks : List Nat) (vs : List EV) : Option (List EV) := mapO (fun k => vs[k]?) ks
def compL (step : PV → Store → Option (Option PV × Store)) : List PV → Store → Option (List PV × Store)
  | [], S => some ([], S)
  | x :: xs, S => match step x S with
    | some (o, S1) => match compL step xs S1 with
      | some (ys, S2) => some (match o with
        | some y => y :: ys
        | none => ys, S2)
      | none => none
    | none => none
def pairUp : List PV → List PV → List PV → List PV → List PV × List PV
  | k :: ks, v :: vs, aks, avs => pairUp ks vs (aks ++ [k]) (avs ++ [v])
  | _, _, aks, avs => (aks, avs)

/-! ### expressions: what each construct does, by what its parts do -/
abbrev R1 := Store → Option (EV × Store)
def gVar (E : Env) (i : Nat) : R1 := fun S => match E[i]? with
  | some (some x) => some (x, S)
  | _ => none
def gFrz (E : Env) (i : Nat) : R1 := fun S => match E[i]? with
  | some (some (.r a)) => match S[a]? with
    | some (.live x) => some (.v x, S.set a .dead)
    | _ => none
  | some (some x) => some (x, S)
  | _ => none
/-- the cell that a name holds -/
def cellOf (E : Env) (S : Store) (x : Nat) : Option (Nat × PV) := match E[x]? with
  | some (some (.r a)) => match S[a]? with
    | some (.live p) => some (a, p)
    | _ => none
  | _ => none
/-- what stands last, taken away -/
def gPop (E : Env) (i : Nat) : R1 := fun S => match cellOf E S i with
  | some (a, .lst xs) => match xs[xs.length - 1]? with
    | some y => some (toR y, S.set a (.live (.lst xs.dropLast)))
    | none => none
  | _ => none
def isCon : PV → Bool
  | .lst _ => true
  | .dic _ _ _ => true
  | _ => false
def gGlo (G : List PV) (g : Nat) : R1 := fun S => match G[g]? with
  | some x => match isCon x with
    | true => none
    | false => some (.v x, S)
  | none => none
def gBin (op : BOp) (f g : R1) : R1 := fun S => match f S with
  | some (x, S1) => match g S1 with
    | some (y, S2) => match rd S2 x with
      | some p => match rd S2 y with
        | some q => match binop op p q with
          | some z => some (z, S2)
          | none => none
        | none => none
      | none => none
    | none => none
  | none => none
def gNeg (f : R1) : R1 := fun S => match f S with
  | some (.v (.int i), S1) => some (.v (.int (-i)), S1)
  | _ => none
def gNo (f : R1) : R1 := fun S => match f S with
  | some (x, S1) => match rdT S1 x with
    | some p => some (.v (.bl (!truth p)), S1)
    | none => none
  | none => none
def gCmp (op : COp) (f g : R1) : R1 := fun S => match f S with
  | some (x, S1) => match g S1 with
    | some (y, S2) => match rd S2 x with
      | some p => match rd S2 y with
        | some q => match cmpop op p q with
          | some z => some (.v (.bl z), S2)
          | none => none
        | none => none
      | none => none
    | none => none
  | none => none
def gCmp2 (op op' : COp) (f g h : R1) : R1 := fun S => match f S with
  | some (.v x, S1) => match g S1 with
    | some (.v y, S2) => match cmpop op x y with
      | some true => match h S2 with
        | some (.v z, S3) => match cmpop op' y z with
          | some k => some (.v (.bl k), S3)
          | none => none
        | _ => none
      | some false => some (.v (.bl false), S2)
      | none => none
    | _ => none
  | _ => none
def gIfe (c f g : R1) : R1 := fun S => match c S with
  | some (x, S1) => match rdT S1 x with
    | some p => match truth p with
      | true => f S1
      | false => g S1
    | none => none
  | none => none
abbrev RL := Store → Option (List EV × Store)
def gTup (f : RL) : R1 := fun S => match f S with
  | some (vs, S1) => match mapO stor vs with
    | some xs => if Nat.ble xs.length line then some (.v (.tup xs), S1) else none
    | none => none
  | none => none
def gLst (f : RL) : R1 := fun S => match f S with
  | some (vs, S1) => match mapO stor vs with
    | some xs => if Nat.ble xs.length line then some (.n (.lst xs), S1) else none
    | none => none
  | none => none
def gIx (ixP : PV → PV → Option PV) (f g : R1) : R1 := fun S => match f S with
  | some (x, S1) => match g S1 with
    | some (y, S2) => match rd S2 x with
      | some p => match rd S2 y with
        | some q => match ixP p q with
          | some z => some (toR z, S2)
          | none => none
        | none => none
      | none => none
    | none => none
  | none => none
abbrev RO := Store → Option (Option Int × Store)
def gPart (f : R1) : RO := fun S => match f S with
  | some (.v (.int i), S1) => some (some i, S1)
  | _ => none
def gSl (f : R1) (l h : RO) : R1 := fun S => match f S with
  | some (x, S1) => match l S1 with
    | some (lo, S2) => match h S2 with
      | some (hi, S3) => match rd S3 x with
        | some p => match slP p lo hi with
          | some z => some (z, S3)
          | none => none
        | none => none
      | none => none
    | none => none
  | none => none
def gRev (f : R1) : R1 := fun S => match f S with
  | some (x, S1) => match rd S1 x with
    | some p => match revP p with
      | some z => some (z, S1)
      | none => none
    | none => none
  | none => none
def gCall (C : Ora) (k : Nat) (f : RL) : R1 := fun S => match f S with
  | some (vs, S1) => match callP C k vs S1 with
    | some z => some (z, S1)
    | none => none
  | none => none
def gCallS (C : Ora) (k : Nat) (f : RL) : R1 := fun S => match f S with
  | some (vs, S1) => match C k vs S1 with
    | some (rv, S2) => some (ofR rv, S2)
    | none => none
  | none => none
def gCallK (C : Ora) (k : Nat) (ks : List Nat) (f : RL) : R1 := fun S => match f S with
  | some (vs, S1) => match reorder ks vs with
    | some ws => match callP C k ws S1 with
      | some z => some (z, S1)
      | none => none
    | none => none
  | none => none
def gBi (b : Bi) (f : RL) : R1 := fun S => match f S with
  | some (vs, S1) => match mapO (rd S1) vs with
    | some xs => match biF b xs with
      | some z => some (z, S1)
      | none => none
    | none => none
  | none => none
def isCel : PV → Bool
  | .cel _ => true
  | .dic true _ _ => true
  | _ => false
def gIsi (ts : List Ty) (f : R1) : R1 := fun S => match f S with
  | some (x, S1) => match rd S1 x with
    | some p => match isCel p with
      | true => none
      | false => some (.v (.bl (ts.any fun t => isT t p)), S1)
    | none => none
  | none => none
def gMe (m : Me) (f : R1) (g : RL) : R1 := fun S => match f S with
  | some (.v p, S0) => match g S0 with
    | some (vs, S1) => match mapO (rd S1) vs with
      | some xs => match meF m p xs with
        | some z => some (z, S1)
        | none => none
      | none => none
    | none => none
  | _ => none
abbrev RI := Store → Option (List PV × EV × Store)
def gKeep (f : R1) : Store → Option (Option PV × Store) := fun S => match f S with
  | some (y, S3) => match stor y with
    | some z => some (some z, S3)
    | none => none
  | none => none
def gStep (E : Env) (own : List Nat) (tg : Tg) (cond : Option (Env → R1)) (elt : Env → R1) (x : PV) (S2 : Store) : Option (Option PV × Store) :=
  match asg tg x (wipe E own) with
  | some E1 => match cond with
    | none => gKeep (elt E1) S2
    | some c => match c E1 S2 with
      | some (t, S3) => match rdT S3 t with
        | some p => match truth p with
          | true => gKeep (elt E1) S3
          | false => some (none, S3)
        | none => none
      | none => none
  | none => none
def gComp (f : RI) (step : PV → Store → Option (Option PV × Store)) : R1 := fun S => match f S with
  | some (items, src, S1) => match compL step items (lock S1 src) with
    | some (ys, S9) => if Nat.ble ys.length line then some (.n (.lst ys), unlock S9 S1 src) else none
    | none => none
  | none => none
/-- a new cell -/
def gMk (f : R1) : R1 := fun S => match f S with
  | some (.n p, S1) => match isCon p with
    | true => some (.r S1.length, S1 ++ [.live p])
    | false => none
  | _ => none
def gDsp (t : Bool) (f g : RL) : R1 := fun S => match f S with
  | some (a, S1) => match g S1 with
    | some (b, S2) => match mapO stor a with
      | some xs => match mapO stor b with
        | some ys => if xs.all (keyOk t) then some (.n (.dic t (dputs [] [] xs ys).1 (dputs [] [] xs ys).2), S2) else none
        | none => none
      | none => none
    | none => none
  | none => none
/-- a text-keyed dict of the module -/
def gGdx (G : List PV) (g : Nat) (f : R1) : R1 := fun S => match f S with
  | some (x, S1) => match rd S1 x with
    | some (.str z) => match G[g]? with
      | some (.dic _ ks vs) => match dget ks vs (.str z) with
        | some y => some (.v y, S1)
        | none => none
      | _ => none
    | _ => none
  | none => none
/-- a text that is a key of a dict of the module -/
def gGin (G : List PV) (neg : Bool) (g : Nat) (f : R1) : R1 := fun S => match f S with
  | some (x, S1) => match rd S1 x with
    | some (.str z) => match G[g]? with
      | some (.dic _ ks vs) => match dget ks vs (.str z) with
        | some _ => some (.v (.bl (!neg)), S1)
        | none => none
      | _ => none
    | _ => none
  | none => none
def gNil : RL := fun S => some ([], S)
def gCons (f : R1) (g : RL) : RL := fun S => match f S with
  | some (x, S1) => match g S1 with
    | some (xs, S2) => some (x :: xs, S2)
    | none => none
  | none => none
def gAnd (f g : R1) : R1 := fun S => match f S with
  | some (x, S1) => match rdT S1 x with
    | some p => match truth p with
      | true => g S1
      | false => some (x, S1)
    | none => none
  | none => none
def gOr (f g : R1) : R1 := fun S => match f S with
  | some (x, S1) => match rdT S1 x with
    | some p => match truth p with
      | true => some (x, S1)
      | false => g S1
    | none => none
  | none => none
def gRng (f : RL) : RI := fun S => match f S with
  | some (vs, S1) => match mapO stor vs with
    | some xs => match rngP xs with
      | some l => some (l, .v .non, S1)
      | none => none
    | none => none
  | none => none
def gEnum (f : R1) : RI := fun S => match f S with
  | some (x, S1) => match stor x with
    | some (.lst xs) => some (enumL 0 xs, .v .non, S1)
    | _ => none
  | none => none
/-- what a walk over it brings -/
def zipSeq : PV → Option (List PV)
  | .lst xs => some xs
  | .tup xs => some xs
  | .str z => some (z.map fun c => .str [c])
  | _ => none
def zipP (a b : PV) : Option (List PV) := match zipSeq a with
  | some xs => match zipSeq b with
    | some ys => some (zipL xs ys)
    | none => none
  | none => none
def gZip (f g : R1) : RI := fun S => match f S with
  | some (x, S1) => match g S1 with
    | some (y, S2) => match stor x with
      | some p => match stor y with
        | some q => match zipP p q with
          | some l => some (l, .v .non, S2)
          | none => none
        | none => none
      | none => none
    | none => none
  | none => none
def gVal (f : R1) : RI := fun S => match f S with
  | some (x, S1) => match rd S1 x with
    | some p => match itemsOf p with
      | some l => some (l, x, S1)
      | none => none
    | none => none
  | none => none
/-- a def that calls the def it is handed: a def at f + this -/
def far2 : Nat := 2000000
section
variable (G : List PV) (C : Ora)
mutual
def ev : Ex → Env → R1
  | .var i, E => gVar E i
  | .frz i, E => gFrz E i
  | .cst c, _ => fun S => some (.v c, S)
  | .glo g, _ => gGlo G g
  | .bin op a b, E => gBin op (ev a E) (ev b E)
  | .neg a, E => gNeg (ev a E)
  | .no a, E => gNo (ev a E)
  | .cmp op a b, E => gCmp op (ev a E) (ev b E)
  | .cmp2 op op' a b c, E => gCmp2 op op' (ev a E) (ev b E) (ev c E)
  | .bop isAnd es, E => evB isAnd es E
  | .ife c a b, E => gIfe (ev c E) (ev a E) (ev b E)
  | .tup es, E => gTup (evs es E)
  | .lst es, E => gLst (evs es E)
  | .ix a b, E => gIx ixP (ev a E) (ev b E)
  | .dix a b, E => gIx dixP (ev a E) (ev b E)
  | .sl a lo hi, E => gSl (ev a E) (evO lo E) (evO hi E)
  | .rev a, E => gRev (ev a E)
  | .call f es, E => gCall C f (evs es E)
  | .callS f es, E => gCallS C f (evs es E)
  | .callK f ks es, E => gCallK C f ks (evs es E)
  | .bi b es, E => gBi b (evs es E)
  | .isi a ts, E => gIsi ts (ev a E)
  | .me m o es, E => gMe m (ev o E) (evs es E)
  | .comp own tg it cond elt, E => gComp (evI it E) (gStep E own tg (evC cond) (ev elt))
  | .dsp t ks vs, E => gDsp t (evs ks E) (evs vs E)
  | .mk e, E => gMk (ev e E)
  | .pop i, E => gPop E i
  | .gdx g e, E => gGdx G g (ev e E)
  | .gin neg g e, E => gGin G neg g (ev e E)
  | .heard f es, E => gCall C (f + far2) (evs es E)
  | .val _, _ => fun _ => none
  | .rng _, _ => fun _ => none
  | .enum _, _ => fun _ => none
  | .zip _ _, _ => fun _ => none
  | .items _, _ => fun _ => none
  | .values _, _ => fun _ => none
def evs : List Ex → Env → RL
  | [], _ => gNil
  | e :: es, E => gCons (ev e E) (evs es E)
def evB (isAnd : Bool) : List Ex → Env → R1
  | [], _ => fun _ => none
  | [e], E => ev e E
  | e :: e2 :: es, E => match isAnd with
    | true => gAnd (ev e E) (evB isAnd (e2 :: es) E)
    | false => gOr (ev e E) (evB isAnd (e2 :: es) E)
def evO : Option Ex → Env → RO
  | none, _ => fun S => some (none, S)
  | some e, E => gPart (ev e E)
def evC : Option Ex → Option (Env → R1)
  | none => none
  | some e => some (ev e)
/-- what is walked: the items, the cell that they stand in -/
def evI : Ex → Env → RI
  | .rng es, E => gRng (evs es E)
  | .enum e, E => gEnum (ev e E)
  | .zip a b, E => gZip (ev a E) (ev b E)
  | .val e, E => gVal (ev e E)
  | _, _ => fun _ => none
end
end

/-! ### statements -/
def stoE (E : Env) (x : Nat) (v : EV) : Env := E.set x (some v)
def forL (step : PV → Env → Store → Option (Fl × Env × Store)) : List PV → Env → Store → Option (Fl × Env × Store)
  | [], E, S => some (.next, E, S)
  | x :: xs, E, S => match step x E S with
    | some (.next, E1, S1) => forL step xs E1 S1
    | some (.cont, E1, S1) => forL step xs E1 S1
    | some (.brk, E1, S1) => some (.next, E1, S1)
    | some (.ret v, E1, S1) => some (.ret v, E1, S1)
    | some (.exc c, E1, S1) => some (.exc c, E1, S1)
    | none => none
def whileL (test : Env → Store → Option (Bool × Store)) (body : Env → Store → Option (Fl × Env × Store)) : Nat → Env → Store → Option (Fl × Env × Store)
  | 0, _, _ => none
  | n + 1, E, S => match test E S with
    | some (true, S0) => match body E S0 with
      | some (.next, E1, S1) => whileL test body n E1 S1
      | some (.cont, E1, S1) => whileL test body n E1 S1
      | some (.brk, E1, S1) => some (.next, E1, S1)
      | some (.ret v, E1, S1) => some (.ret v, E1, S1)
      | some (.exc c, E1, S1) => some (.exc c, E1, S1)
      | none => none
    | some (false, S0) => some (.next, E, S0)
    | none => none
/-- a store into a list or a dict -/
def setL (xs : List PV) (y : PV) : PV → Option PV
  | .int i => match pyIx xs.length i with
    | some j => some (.lst (xs.set j y))
    | none => none
  | _ => none
def setP : PV → PV → PV → Option PV
  | .lst xs, k, y => setL xs y k
  | .dic t ks vs, k, y => if (keyOk t k && Nat.blt ks.length line) then some (.dic t (dput ks vs k y).1 (dput ks vs k y).2) else none
  | _, _, _ => none
abbrev RS := Env → Store → Option (Fl × Env × Store)
abbrev RE := Env → R1
def hExpr (f : RE) : RS := fun E S => match f E S with
  | some (_, S1) => some (.next, E, S1)
  | none => none
def isLst : Option (Nat × PV) → Bool
  | some (_, .lst _) => true
  | _ => false
def hApp (x : Nat) (f : RE) : RS := fun E S => match isLst (cellOf E S x) with
  | true => match f E S with
    | some (v, S1) => match stor v with
      | some p => match cellOf E S1 x with
        | some (a, .lst xs) => if Nat.blt xs.length line then some (.next, E, S1.set a (.live (.lst (xs ++ [p])))) else none
        | _ => none
      | none => none
    | none => none
  | false => none
/-- the list that a cell holds -/
def lstAt (S : Store) (a : Nat) : Option (List PV) := match S[a]? with
  | some (.live (.lst xs)) => some xs
  | _ => none
def hAppx (o f : RE) : RS := fun E S => match o E S with
  | some (.r a, S0) => match lstAt S0 a with
    | some _ => match f E S0 with
      | some (v, S1) => match stor v with
        | some p => match lstAt S1 a with
          | some xs => if Nat.blt xs.length line then some (.next, E, S1.set a (.live (.lst (xs ++ [p])))) else none
          | none => none
        | none => none
      | none => none
    | none => none
  | _ => none
def hExt (x : Nat) (f : RE) : RS := fun E S => match isLst (cellOf E S x) with
  | true => match f E S with
    | some (v, S1) => match (stor v).bind seqOf with
      | some ys => match cellOf E S1 x with
        | some (a, .lst xs) => if Nat.ble (xs.length + ys.length) line then some (.next, E, S1.set a (.live (.lst (xs ++ ys)))) else none
        | _ => none
      | none => none
    | none => none
  | false => none
def toE : EV → EV
  | .n p => .v p
  | v => v
def hSet (x : Nat) (f : RE) : RS := fun E S => match f E S with
  | some (v, S1) => some (.next, E.set x (some (toE v)), S1)
  | none => none
def hTset (t : Tg) (f : RE) : RS := fun E S => match f E S with
  | some (v, S1) => match stor v with
    | some p => match asg t p E with
      | some E1 => some (.next, E1, S1)
      | none => none
    | none => none
  | none => none
/-- several names from the values of a written tuple -/
def parE : List Nat → List EV → Env → Option Env
  | [], [], E => some E
  | x :: xs, v :: vs, E => parE xs vs (E.set x (some (toE v)))
  | _, _, _ => none
def hPar (xs : List Nat) (f : Env → RL) : RS := fun E S => match f E S with
  | some (vs, S1) => match parE xs vs E with
    | some E1 => some (.next, E1, S1)
    | none => none
  | none => none
/-- op=, of ints -/
def augOp : BOp → Bool
  | .add | .sub | .mul | .fdiv => true
  | _ => false
def augP (op : BOp) : PV → PV → Option PV
  | .int i, .int j => if augOp op then binI op i j else none
  | _, _ => none
def hAug (x : Nat) (op : BOp) (f : RE) : RS := fun E S => match E[x]? with
  | some (some (.v p)) => match f E S with
    | some (v, S1) => match rd S1 v with
      | some q => match augP op p q with
        | some z => some (.next, E.set x (some (.v z)), S1)
        | none => none
      | none => none
    | none => none
  | _ => none
def hAugi (x : Nat) (g : RE) (op : BOp) (f : RE) : RS := fun E S => match g E S with
  | some (.v kp, S1) => match cellOf E S1 x with
    | some (_, c) => match ixC c kp with
      | some old => match f E S1 with
        | some (.v q, S2) => match augP op old q with
          | some z => match cellOf E S2 x with
            | some (a2, c2) => match setP c2 kp z with
              | some c3 => some (.next, E, S2.set a2 (.live c3))
              | none => none
            | none => none
          | none => none
        | _ => none
      | none => none
    | none => none
  | _ => none
def hSeti (x : Nat) (g : RE) (f : RE) : RS := fun E S => match f E S with
  | some (v, S1) => match g E S1 with
    | some (.v kp, S2) => match stor v with
      | some p => match cellOf E S2 x with
        | some (a, c) => match setP c kp p with
          | some c3 => some (.next, E, S2.set a (.live c3))
          | none => none
        | none => none
      | none => none
    | _ => none
  | none => none
def hRet (f : RE) : RS := fun E S => match f E S with
  | some (v, S1) => some (.ret v, E, S1)
  | none => none
def hIfe (c : RE) (f g : RS) : RS := fun E S => match c E S with
  | some (x, S1) => match rdT S1 x with
    | some p => match truth p with
      | true => f E S1
      | false => g E S1
    | none => none
  | none => none
def hTurn (t : Tg) (body : RS) (x : PV) : RS := fun E S => match asg t x E with
  | some E3 => body E3 S
  | none => none
def hFor (t : Tg) (it : Env → RI) (body : RS) : RS := fun E S => match it E S with
  | some (items, src, S1) => match forL (hTurn t body) items E (lock S1 src) with
    | some (fl, E9, S9) => some (fl, E9, unlock S9 S1 src)
    | none => none
  | none => none
def hTest (c : RE) (E : Env) (S : Store) : Option (Bool × Store) := match c E S with
  | some (x, S3) => match rdT S3 x with
    | some p => some (truth p, S3)
    | none => none
  | none => none
def hWhile (w : Nat) (c : RE) (body : RS) : RS := whileL (hTest c) body w
def hNil : RS := fun E S => some (.next, E, S)
def hCons (f g : RS) : RS := fun E S => match f E S with
  | some (.next, E1, S1) => g E1 S1
  | some (.brk, E1, S1) => some (.brk, E1, S1)
  | some (.cont, E1, S1) => some (.cont, E1, S1)
  | some (.ret v, E1, S1) => some (.ret v, E1, S1)
  | some (.exc c, E1, S1) => some (.exc c, E1, S1)
  | none => none
/-- a def at f + this: what it raises -/
def far : Nat := 1000000
def hRais (c : Nat) : RS := fun E S => some (.exc c, E, S)
/-- try: f(..) except c: return a -/
def hTryc (C : Ora) (f : Nat) (g : Env → RL) (c : Nat) (a : PV) : RS := fun E S => match g E S with
  | some (vs, S1) => match C f vs S1 with
    | some (_, S2) => some (.next, E, S2)
    | none => match C (f + far) vs S1 with
      | some (.v (.int k), S2) => match decide (k = (c : Int)) with
        | true => some (.ret (.v a), E, S2)
        | false => none
      | _ => none
  | none => none
section
variable (G : List PV) (C : Ora) (w : Nat)
mutual
def ex : Stm → RS
  | .expr e => hExpr (ev G C e)
  | .app x e => hApp x (ev G C e)
  | .ext x e => hExt x (ev G C e)
  | .appx o e => hAppx (ev G C o) (ev G C e)
  | .set x e => hSet x (ev G C e)
  | .tset t e => hTset t (ev G C e)
  | .par xs es => hPar xs (evs G C es)
  | .aug x op e => hAug x op (ev G C e)
  | .augi x i op e => hAugi x (ev G C i) op (ev G C e)
  | .seti x i e => hSeti x (ev G C i) (ev G C e)
  | .ret e => hRet (ev G C e)
  | .retN => fun E S => some (.ret (.v .non), E, S)
  | .ife c a b => hIfe (ev G C c) (exs a) (exs b)
  | .forr t it body => hFor t (evI G C it) (exs body)
  | .whil c body => hWhile w (ev G C c) (exs body)
  | .brk => fun E S => some (.brk, E, S)
  | .cont => fun E S => some (.cont, E, S)
  | .pass => fun E S => some (.next, E, S)
  | .never => fun _ _ => none
  | .rais c => hRais c
  | .tryc f es c a => hTryc C f (evs G C es) c a
def exs : List Stm → RS
  | [] => hNil
  | s :: r => hCons (ex s) (exs r)
end
end
/-- a def: how many parameters, how many names, the body -/
structure Fn where
  np : Nat
  nn : Nat
  body : List Stm
/-- what a def hands back: a cell of its own is given away -/
def fin (n0 : Nat) (S : Store) : EV → Option (RV × Store)
  | .v x => some (.v x, S)
  | .n x => some (.own x, S)
  | .r a => if Nat.ble n0 a then match S[a]? with
      | some (.live x) => some (.own x, S.set a .dead)
      | _ => none
    else none
def run (G : List PV) (C : Ora) (w : Nat) (F : Fn) (vs : List EV) (S : Store) : Option (RV × Store) :=
  if Nat.beq vs.length F.np then
    match exs G C w F.body (vs.map (fun v => some (toE v)) ++ List.replicate (F.nn - F.np) none) S with
    | some (.next, _, S1) => some (.v .non, S1)
    | some (.ret v, _, S1) => fin S.length S1 v
    | _ => none
  else none
/-- what a def raises -/
def runX (G : List PV) (C : Ora) (w : Nat) (F : Fn) (vs : List EV) (S : Store) : Option (RV × Store) :=
  if Nat.beq vs.length F.np then
    match exs G C w F.body (vs.map (fun v => some (toE v)) ++ List.replicate (F.nn - F.np) none) S with
    | some (.exc c, _, S1) => some (.v (.int c), S1)
    | _ => none
  else none
/-- what it hands back where the class 0 is raised -/
def heardV : List PV := [.str [99, 97, 110, 32, 110, 111, 116], .bl true]
def runH (C : Ora) (i : Nat) (vs : List EV) (S : Store) : Option (RV × Store) := match C i vs S with
  | some (.v x, S1) => some (.v x, S1)
  | some (.own _, _) => none
  | none => match C (i + far) vs S with
    | some (.v (.int k), S1) => if k = 0 then some (.own (.lst heardV), S1) else none
    | _ => none
def call (G : List PV) (T : List Fn) (w : Nat) : Nat → Ora
  | 0 => fun _ _ _ => none
  | n + 1 => fun f vs S => match T[f]? with
    | some F => run G (call G T w n) w F vs S
    | none => match Nat.ble far f with
      | true => (match T[f - far]? with
        | some F => runX G (call G T w n) w F vs S
        | none => (match Nat.ble far2 f with
          | true => runH (call G T w n) (f - far2) vs S
          | false => none))
      | false => none
theorem call_run {G : List PV} {T : List Fn} {w n i : Nat} {vs : List EV} {S : Store} {F : Fn} (h : T[i]? = some F) : call G T w (n + 1) i vs S = run G (call G T w n) w F vs S := by
  show (match T[i]? with
    | some F => run G (call G T w n) w F vs S
    | none => _) = _
  rw [h]
theorem call_eq {G : List PV} {T : List Fn} {w n f : Nat} {vs : List EV} {S : Store} : call G T w (n + 1) f vs S = match T[f]? with
    | some F => run G (call G T w n) w F vs S
    | none => match Nat.ble far f with
      | true => (match T[f - far]? with
        | some F => runX G (call G T w n) w F vs S
        | none => (match Nat.ble far2 f with
          | true => runH (call G T w n) (f - far2) vs S
          | false => none))
      | false => none := rfl
theorem call_far {G : List PV} {T : List Fn} {w n i : Nat} {vs : List EV} {S : Store} {F : Fn} (hl : T.length ≤ far) (h : T[i]? = some F) : call G T w (n + 1) (i + far) vs S = runX G (call G T w n) w F vs S := by
  rw [call_eq, List.getElem?_eq_none (by omega), Nat.ble_eq_true_of_le (Nat.le_add_left far i), Nat.add_sub_cancel, h]
theorem call_heard {G : List PV} {T : List Fn} {w n i : Nat} {vs : List EV} {S : Store} (hl : T.length ≤ far) : call G T w (n + 1) (i + far2) vs S = runH (call G T w n) i vs S := by
  have e : far2 = far + far := rfl
  rw [call_eq, List.getElem?_eq_none (by omega), Nat.ble_eq_true_of_le (by omega : far ≤ i + far2), List.getElem?_eq_none (by omega), Nat.ble_eq_true_of_le (Nat.le_add_left far2 i), Nat.add_sub_cancel]
end Py

set_option linter.all false
set_option maxRecDepth 100000
set_option maxHeartbeats 4000000
namespace Py
open PySem PySem.Spec PyProof.Rows L2
/-! order of tuples of ints -/
theorem lexAt_C {r : Int → Int → Bool} {z : Nat → Nat → Bool} (hz : ∀ a b, z (a + 1) (b + 1) = z a b) (N M : List Int) : ∀ (ns ms : List Int) (i : Nat), (∀ j, ns[j]? = N[i + j]?) → (∀ j, ms[j]? = M[i + j]?) → N.length = i + ns.length → M.length = i + ms.length →
    Ob.lexAt (fun j => decide (N.getD j 0 = M.getD j 0)) (fun j => r (N.getD j 0) (M.getD j 0)) (z N.length M.length) i (min ns.length ms.length) = lexC r z ns ms := by
  have zz : ∀ i a b, z (i + a) (i + b) = z a b := fun i a b => by
    induction i with
    | zero => rw [Nat.zero_add, Nat.zero_add]
    | succ i ih => rw [show i + 1 + a = (i + a) + 1 by omega, show i + 1 + b = (i + b) + 1 by omega, hz, ih]
  intro ns
  induction ns with
  | nil =>
    intro ms i _ _ h3 h4
    rw [show min ([] : List Int).length ms.length = 0 by simp, Ob.lexAt_zero, h3, h4, zz]
    cases ms <;> rfl
  | cons x xs ih =>
    intro ms i h1 h2 h3 h4
    cases ms with
    | nil =>
      rw [show min (x :: xs).length ([] : List Int).length = 0 by simp, Ob.lexAt_zero, h3, h4, zz]
      rfl
    | cons y ys =>
      have ex : N.getD i 0 = x := by
        have := h1 0
        rw [List.getElem?_cons_zero, Nat.add_zero] at this
        rw [List.getD_eq_getElem?_getD, ← this]; rfl
      have ey : M.getD i 0 = y := by
        have := h2 0
        rw [List.getElem?_cons_zero, Nat.add_zero] at this
        rw [List.getD_eq_getElem?_getD, ← this]; rfl
      rw [show min (x :: xs).length (y :: ys).length = min xs.length ys.length + 1 by simp only [List.length_cons]; omega, Ob.lexAt_succ, ex, ey]
      unfold lexC
      by_cases e : x = y
      · rw [if_pos (decide_eq_true e), if_pos e]
        refine ih ys (i + 1) (fun j => ?_) (fun j => ?_) (by rw [h3, List.length_cons]; omega) (by rw [h4, List.length_cons]; omega)
        · have := h1 (j + 1)
          rw [List.getElem?_cons_succ] at this
          rw [this, show i + (j + 1) = i + 1 + j by omega]
        · have := h2 (j + 1)
          rw [List.getElem?_cons_succ] at this
          rw [this, show i + (j + 1) = i + 1 + j by omega]
      · rw [if_neg (by simpa using e), if_neg e]
def rCmpT (K : PySem.W.Frag) (r : Int → Int → Bool) (z : Nat → Nat → Bool) : R2 := fun x y H Q => ∃ (a b : Addr) (ns ms : List Int), x = .ref a ∧ y = .ref b ∧ SqT K H a (ns.map V.int) ∧ SqT K H b (ms.map V.int) ∧ Q (.bl (lexC r z ns ms)) H
section
variable {X : Cx}
theorem rc_tup {op : CmpOp} {r : Int → Int → Bool} {z : Nat → Nat → Bool} (hz : ∀ a b, z (a + 1) (b + 1) = z a b) (hop : compareOp op = richCompare op)
    (hint : ∀ (A : Around) (s : Shared) (a b : Int) (t u : Tok), Ob.RcOp op A s (.int a t) (.int b u) (r a b))
    (htup : ∀ {A : Around} {s : Shared} {l b : Addr} {items items2 : Array Value} {e' r' : Nat → Bool}, s.heap.IsTuple l items → s.heap.IsTuple b items2 → A.units < cLine → (∀ j (h1 : j < items.size) (h2 : j < items2.size), SeqAt.EqAt A.in1 s items[j] items2[j] (e' j)) →
      (∀ j (h1 : j < items.size) (h2 : j < items2.size), e' j = false → Ob.RcOp op A.in1 s items[j] items2[j] (r' j)) → Ob.RcOp op A s (.ref l) (.ref b) (Ob.lexAt e' r' (z items.size items2.size) 0 (min items.size items2.size)))
    (hu : X.A.units < cLine) : OpR X (compareOp op) (rCmpT X.K r z) := by
  intro pins s σ H x y v u Q I rx ry h
  obtain ⟨a, b, ns, ms, rfl, rfl, ha, hb, q⟩ := h
  cases rx
  cases ry
  obtain ⟨its, q1, p1, _⟩ := I.tuple ha
  obtain ⟨its2, q2, p2, _⟩ := I.tuple hb
  have i1 : IntsAre its ns := Vals.ints q1
  have i2 : IntsAre its2 ms := Vals.ints q2
  have e1 : its.toArray.size = ns.length := by rw [List.size_toArray]; exact i1.length
  have e2 : its2.toArray.size = ms.length := by rw [List.size_toArray]; exact i2.length
  have g1 : ∀ j (h1 : j < its.toArray.size), ∃ t, its.toArray[j] = .int (ns.getD j 0) t := fun j h1 => PyProof.Rows.IntsAre.int_at i1 _ _ (by simp at h1; simp [h1])
  have g2 : ∀ j (h1 : j < its2.toArray.size), ∃ t, its2.toArray[j] = .int (ms.getD j 0) t := fun j h1 => PyProof.Rows.IntsAre.int_at i2 _ _ (by simp at h1; simp [h1])
  have R := htup (A := X.A) (s := s) (e' := fun j => decide (ns.getD j 0 = ms.getD j 0)) (r' := fun j => r (ns.getD j 0) (ms.getD j 0)) p1 p2 hu (fun j h1 h2 => by
    obtain ⟨t, et⟩ := g1 j h1
    obtain ⟨t', et'⟩ := g2 j h2
    rw [et, et', show decide (ns.getD j 0 = ms.getD j 0) = (ns.getD j 0 == ms.getD j 0) from (Bool.beq_eq_decide_eq _ _).symm]
    exact SeqAt.EqAt.int_int _ _ _ _) (fun j h1 h2 _ => by
    obtain ⟨t, et⟩ := g1 j h1
    obtain ⟨t', et'⟩ := g2 j h2
    rw [et, et']
    exact hint _ _ _ _ _ _)
  rw [e1, e2] at R
  have L := lexAt_C (r := r) hz ns ms ns ms 0 (fun j => by rw [Nat.zero_add]) (fun j => by rw [Nat.zero_add]) (Nat.zero_add _).symm (Nat.zero_add _).symm
  rw [L] at R
  have w : wpAny (model X.prog X.w) X.A (richCompare op (.ref a) (.ref b)) (EP X pins σ Q) X.xe s := R X.prog X.w X.xe (EP X pins σ Q) ⟨.bl _, H, I, rfl, q⟩
  show wpAny (model X.prog X.w) X.A (compareOp op (.ref a) (.ref b)) (EP X pins σ Q) X.xe s
  rw [hop]
  exact w
theorem op_ltT (hu : X.A.units < cLine) : OpR X (compareOp .Lt) (rCmpT X.K (fun a b => decide (a < b)) (fun a b => decide (a < b))) :=
  rc_tup (fun a b => by simp) rfl (fun _ _ => Ob.RcOp.lt_int) Ob.RcOp.tuples_lt hu
theorem op_leTT (hu : X.A.units < cLine) : OpR X (compareOp .LtE) (rCmpT X.K (fun a b => decide (a ≤ b)) (fun a b => decide (a ≤ b))) :=
  rc_tup (fun a b => by simp) rfl (fun _ _ => Ob.RcOp.le_int) Ob.RcOp.tuples_le hu
theorem op_gtT (hu : X.A.units < cLine) : OpR X (compareOp .Gt) (rCmpT X.K (fun a b => decide (b < a)) (fun a b => decide (a > b))) :=
  rc_tup (fun a b => by simp) rfl (fun _ _ => Ob.RcOp.gt_int) Ob.RcOp.tuples_gt hu
theorem op_geT (hu : X.A.units < cLine) : OpR X (compareOp .GtE) (rCmpT X.K (fun a b => decide (b ≤ a)) (fun a b => decide (a ≥ b))) :=
  rc_tup (fun a b => by simp) rfl (fun _ _ => Ob.RcOp.ge_int) Ob.RcOp.tuples_ge hu
end
end Py

set_option Elab.async false
set_option linter.all false
set_option maxRecDepth 100000
set_option maxHeartbeats 4000000
namespace Py
open PySem L2
abbrev Fg := PySem.W.Frag
/-! ### values beside the abstract heap -/
def keyPV : Key → PV
  | .inl i => .int i
  | .inr x => .str x.cps.toList
/-- which addresses change (at 0); where the cell a stands (at a + 1) -/
abbrev Ml := Nat → Addr → Prop
def okS (x : List Nat) : Prop := (∀ c ∈ x, c < 1114112) ∧ x.length ≤ line
/-! ### keys of tuples -/
mutual
def nk : PV → NK
  | .int i => .num i
  | .tup xs => .tup (nks xs)
  | _ => .none
def nks : List PV → List NK
  | [] => []
  | x :: xs => nk x :: nks xs
end
/-- the keys of a dict of tuples, and what is known of them -/
def KeyR (ks : List PV) (xs : RX) : Prop := ks.all isKeyT = true ∧ xs.map (·.1) = ks.map nk
mutual
theorem noC_nk : ∀ x : PV, isNK x = true → noC x = true
  | .int _, _ => rfl
  | .non, _ => rfl
  | .tup xs, h => noCs_nk xs h
  | .bl _, h => by cases h
  | .str _, h => by cases h
  | .lst _, h => by cases h
  | .dic _ _ _, h => by cases h
  | .scr _, h => by cases h
  | .cel _, h => by cases h
theorem noCs_nk : ∀ xs : List PV, isNKs xs = true → noCs xs = true
  | [], _ => rfl
  | x :: xs, h => by
    have h : (isNK x && isNKs xs) = true := h
    rw [Bool.and_eq_true] at h
    show (noC x && noCs xs) = true
    rw [noC_nk x h.1, noCs_nk xs h.2]
    rfl
end
theorem isKeyT_nk {x : PV} (h : isKeyT x = true) : isNK x = true ∧ dep x ≤ 8 := by
  cases x with
  | tup xs =>
    have h : (isNK (.tup xs) && Nat.ble (dep (.tup xs)) 8) = true := h
    rw [Bool.and_eq_true] at h
    exact ⟨h.1, Nat.le_of_ble_eq_true h.2⟩
  | _ => cases h
theorem noCs_keys : ∀ ks : List PV, ks.all isKeyT = true → noCs ks = true
  | [], _ => rfl
  | x :: ks, h => by
    rw [List.all_cons, Bool.and_eq_true] at h
    show (noC x && noCs ks) = true
    rw [noC_nk x (isKeyT_nk h.1).1, noCs_keys ks h.2]
    rfl
mutual
inductive VR (K : Fg) (M : Ml) (H : Hp) : PV → V → Prop
  | non : VR K M H .non .non
  | bl (b : Bool) : VR K M H (.bl b) (.bl b)
  | int (i : Int) : VR K M H (.int i) (.int i)
  | str (x : List Nat) : okS x → VR K M H (.str x) (.str ⟨x.toArray⟩)
  | tup {p : Addr} {vs : List PV} {xs : List V} : SqT K H p xs → VRs K M H vs xs → VR K M H (.tup vs) (.ref p)
  | lst {p : Addr} {vs : List PV} {xs : List V} : H p = some (.lst xs) → ¬ M 0 p → VRs K M H vs xs → VR K M H (.lst vs) (.ref p)
  | dicK {p : Addr} {vs : List PV} {kvs : List (Key × V)} : H p = some (.dK kvs) → ¬ M 0 p → VRs K M H vs (kvs.map Prod.snd) → VR K M H (.dic false (kvs.map fun kv => keyPV kv.1) vs) (.ref p)
  | dicT {p : Addr} {ks vs : List PV} {xs : RX} : H p = some (rawO p xs) → ¬ M 0 p → KeyR ks xs → VRs K M H ks (xs.map fun x => V.ref x.2.1) → VRs K M H vs (xs.map fun x => x.2.2) → VR K M H (.dic true ks vs) (.ref p)
  | cel {a : Nat} {p : Addr} : M (a + 1) p → VR K M H (.cel a) (.ref p)
  | scr {p : Addr} {vs : List PV} {xs : List V} {o : Obj} : H p = some (.frz o (.lst xs)) → VRs K M H vs xs → VR K M H (.scr vs) (.ref p)
  | scrK {p : Addr} {vs : List PV} {xs : List V} : (∀ H2 : Hp, SqL K H2 p xs) → VRs K M H vs xs → VR K M H (.scr vs) (.ref p)
inductive VRs (K : Fg) (M : Ml) (H : Hp) : List PV → List V → Prop
  | nil : VRs K M H [] []
  | cons {x : PV} {v : V} {xs : List PV} {vs : List V} : VR K M H x v → VRs K M H xs vs → VRs K M H (x :: xs) (v :: vs)
end
def MutOk (M : Ml) (H : Hp) : Prop := ∀ p, M 0 p → ∃ o, H p = some o ∧ Mut (some o)
structure Move (M : Ml) (H : Hp) (M' : Ml) (H' : Hp) : Prop where
  ok : MutOk M H
  keep : ∀ p o, H p = some o → ¬ M 0 p → H' p = some o
  mu : ∀ p, M' 0 p → M 0 p ∨ H p = none
  ad : ∀ a p, M (a + 1) p → M' (a + 1) p
section
variable {K : Fg} {M M' : Ml} {H H' : Hp}
theorem Move.tup (m : Move M H M' H') {p : Addr} {xs : List V} (h : SqT K H p xs) : SqT K H' p xs := by
  have nm : ∀ o, H p = some o → ¬ Mut (some o) → ¬ M 0 p := fun o e nn hm => by
    obtain ⟨o', e', mu⟩ := m.ok p hm
    rw [e] at e'; cases e'
    exact nn mu
  rcases h with (h | ⟨o, h⟩) | h
  · exact .inl (.inl (m.keep _ _ h (nm _ h fun z => z)))
  · exact .inl (.inr ⟨o, m.keep _ _ h (nm _ h fun z => z)⟩)
  · exact .inr h
theorem Move.not (m : Move M H M' H') {p : Addr} {o : HO} (h : H p = some o) (n : ¬ M 0 p) : ¬ M' 0 p := fun z => by
  rcases m.mu p z with z | z
  · exact n z
  · rw [h] at z; cases z
mutual
theorem VR.move (m : Move M H M' H') : ∀ {x : PV} {v : V}, VR K M H x v → VR K M' H' x v
  | _, _, .non => .non
  | _, _, .bl b => .bl b
  | _, _, .int i => .int i
  | _, _, .str x h => .str x h
  | _, _, .tup h r => .tup (m.tup h) (VRs.move m r)
  | _, _, .lst h n r => .lst (m.keep _ _ h n) (m.not h n) (VRs.move m r)
  | _, _, .dicK h n r => .dicK (m.keep _ _ h n) (m.not h n) (VRs.move m r)
  | _, _, .dicT h n kr a r => .dicT (m.keep _ _ h n) (m.not h n) kr (VRs.move m a) (VRs.move m r)
  | _, _, .scr h r => .scr (m.keep _ _ h fun hm => by
      obtain ⟨o', e', mu⟩ := m.ok _ hm
      rw [h] at e'; cases e'
      exact mu) (VRs.move m r)
  | _, _, .scrK h r => .scrK h (VRs.move m r)
  | _, _, .cel h => .cel (m.ad _ _ h)
theorem VRs.move (m : Move M H M' H') : ∀ {x : List PV} {v : List V}, VRs K M H x v → VRs K M' H' x v
  | _, _, .nil => .nil
  | _, _, .cons h r => .cons (VR.move m h) (VRs.move m r)
end
mutual
/-- what names no cell -/
theorem VR.moveC (ok : MutOk M H) (keep : ∀ p o, H p = some o → ¬ M 0 p → H' p = some o) (mu : ∀ p, M' 0 p → M 0 p ∨ H p = none) : ∀ {x : PV} {v : V}, VR K M H x v → noC x = true → VR K M' H' x v
  | _, _, .non, _ => .non
  | _, _, .bl b, _ => .bl b
  | _, _, .int i, _ => .int i
  | _, _, .str x h, _ => .str x h
  | _, _, .tup h r, c => .tup (Move.tup (M' := fun n p => match n with | 0 => M' 0 p | n + 1 => M (n + 1) p) ⟨ok, keep, mu, fun _ _ h => h⟩ h) (VRs.moveC ok keep mu r c)
  | _, _, .lst h n r, c => .lst (keep _ _ h n) (fun z => by
      rcases mu _ z with z | z
      · exact n z
      · rw [h] at z; cases z) (VRs.moveC ok keep mu r c)
  | _, _, .dicK h n r, c => .dicK (keep _ _ h n) (fun z => by
      rcases mu _ z with z | z
      · exact n z
      · rw [h] at z; cases z) (VRs.moveC ok keep mu r c)
  | _, _, .dicT h n kr a r, c => .dicT (keep _ _ h n) (fun z => by
      rcases mu _ z with z | z
      · exact n z
      · rw [h] at z; cases z) kr (VRs.moveC ok keep mu a (noCs_keys _ kr.1)) (VRs.moveC ok keep mu r c)
  | _, _, .scr h r, c => .scr (keep _ _ h fun hm => by
      obtain ⟨o', e', mu⟩ := ok _ hm
      rw [h] at e'; cases e'
      exact mu) (VRs.moveC ok keep mu r c)
  | _, _, .scrK h r, c => .scrK h (VRs.moveC ok keep mu r c)
  | _, _, .cel _, c => nomatch c
theorem VRs.moveC (ok : MutOk M H) (keep : ∀ p o, H p = some o → ¬ M 0 p → H' p = some o) (mu : ∀ p, M' 0 p → M 0 p ∨ H p = none) : ∀ {x : List PV} {v : List V}, VRs K M H x v → noCs x = true → VRs K M' H' x v
  | _, _, .nil, _ => .nil
  | _, _, .cons h r, c => by
    have c := Bool.and_eq_true_iff.mp c
    exact .cons (VR.moveC ok keep mu h c.1) (VRs.moveC ok keep mu r c.2)
end
theorem Move.same (ok : MutOk M H) (s : Same H H') : Move M H M H' := ⟨ok, fun p o h _ => s p o h, fun p h => .inl h, fun _ _ h => h⟩
theorem VRs.length : ∀ {x : List PV} {v : List V}, VRs K M H x v → x.length = v.length
  | _, _, .nil => rfl
  | _, _, .cons _ r => congrArg Nat.succ (VRs.length r)
theorem VRs.append : ∀ {x y : List PV} {v u : List V}, VRs K M H x v → VRs K M H y u → VRs K M H (x ++ y) (v ++ u)
  | _, _, _, _, .nil, s => s
  | _, _, _, _, .cons h r, s => .cons h (VRs.append r s)
theorem VRs.get : ∀ {x : List PV} {v : List V} {i : Nat} {a : PV}, VRs K M H x v → x[i]? = some a → ∃ b, v[i]? = some b ∧ VR K M H a b
  | _, _, _, _, .nil, e => by simp at e
  | _, _, 0, _, .cons h _, e => by simp at e; subst e; exact ⟨_, rfl, h⟩
  | _, _, i + 1, a, .cons _ r, e => by
    obtain ⟨b, h1, h2⟩ := VRs.get (i := i) (a := a) r (by simpa using e)
    exact ⟨b, by simpa using h1, h2⟩
theorem VRs.take : ∀ (n : Nat) {x : List PV} {v : List V}, VRs K M H x v → VRs K M H (x.take n) (v.take n)
  | 0, _, _, _ => .nil
  | _ + 1, _, _, .nil => .nil
  | n + 1, _, _, .cons h r => .cons h (VRs.take n r)
theorem VRs.drop : ∀ (n : Nat) {x : List PV} {v : List V}, VRs K M H x v → VRs K M H (x.drop n) (v.drop n)
  | 0, _, _, r => r
  | _ + 1, _, _, .nil => .nil
  | n + 1, _, _, .cons _ r => VRs.drop n r
theorem VRs.set {a : PV} {b : V} (h : VR K M H a b) : ∀ {x : List PV} {v : List V} (i : Nat), VRs K M H x v → VRs K M H (x.set i a) (v.set i b)
  | _, _, _, .nil => .nil
  | _, _, 0, .cons _ r => .cons h r
  | _, _, i + 1, .cons g r => .cons g (VRs.set h i r)
theorem VRs.one {a : PV} {b : V} (h : VR K M H a b) : VRs K M H [a] [b] := .cons h .nil
theorem VRs.reverse : ∀ {x : List PV} {v : List V}, VRs K M H x v → VRs K M H x.reverse v.reverse
  | _, _, .nil => .nil
  | _, _, .cons h r => by
    rw [List.reverse_cons, List.reverse_cons]
    exact (VRs.reverse r).append (.one h)
theorem VRs.rep {x : List PV} {v : List V} (r : VRs K M H x v) : ∀ k : Nat, VRs K M H (List.replicate k x).flatten (List.replicate k v).flatten
  | 0 => .nil
  | k + 1 => by
    rw [List.replicate_succ, List.replicate_succ, List.flatten_cons, List.flatten_cons]
    exact r.append (VRs.rep r k)
theorem VRs.ints : ∀ {x : List PV} {v : List V} {ns : List Int}, VRs K M H x v → intsOf x = some ns → v = ns.map V.int
  | _, _, _, .nil, e => by cases e; rfl
  | .int i :: xs, _, ns, .cons h r, e => by
    cases h
    unfold intsOf at e
    cases q : intsOf xs with
    | none => rw [q] at e; cases e
    | some ms =>
      rw [q] at e
      cases e
      rw [VRs.ints r q]
      rfl
  | .non :: _, _, _, .cons _ _, e => by cases e
  | .bl _ :: _, _, _, .cons _ _, e => by cases e
  | .str _ :: _, _, _, .cons _ _, e => by cases e
  | .tup _ :: _, _, _, .cons _ _, e => by cases e
  | .lst _ :: _, _, _, .cons _ _, e => by cases e
  | .dic _ _ _ :: _, _, _, .cons _ _, e => by cases e
  | .scr _ :: _, _, _, .cons _ _, e => by cases e
  | .cel _ :: _, _, _, .cons _ _, e => by cases e
theorem VRs.bls : ∀ {x : List PV} {v : List V} {ns : List Bool}, VRs K M H x v → blsOf x = some ns → v = ns.map V.bl
  | _, _, _, .nil, e => by cases e; rfl
  | .bl i :: xs, _, ns, .cons h r, e => by
    cases h
    unfold blsOf at e
    cases q : blsOf xs with
    | none => rw [q] at e; cases e
    | some ms =>
      rw [q] at e
      cases e
      rw [VRs.bls r q]
      rfl
  | .non :: _, _, _, .cons _ _, e => by cases e
  | .int _ :: _, _, _, .cons _ _, e => by cases e
  | .str _ :: _, _, _, .cons _ _, e => by cases e
  | .tup _ :: _, _, _, .cons _ _, e => by cases e
  | .lst _ :: _, _, _, .cons _ _, e => by cases e
  | .dic _ _ _ :: _, _, _, .cons _ _, e => by cases e
  | .scr _ :: _, _, _, .cons _ _, e => by cases e
  | .cel _ :: _, _, _, .cons _ _, e => by cases e
theorem VRs.strs : ∀ {x : List PV} {v : List V} {ns : List (List Nat)}, VRs K M H x v → strsOf x = some ns → v = (ns.map fun z => (⟨z.toArray⟩ : Str)).map V.str ∧ ∀ z ∈ ns, okS z
  | _, _, _, .nil, e => by cases e; exact ⟨rfl, fun _ z => nomatch z⟩
  | .str i :: xs, _, ns, .cons h r, e => by
    cases h with
    | str _ ok =>
    unfold strsOf at e
    cases q : strsOf xs with
    | none => rw [q] at e; cases e
    | some ms =>
      rw [q] at e
      cases e
      obtain ⟨e1, e2⟩ := VRs.strs r q
      rw [e1]
      exact ⟨rfl, fun z hz => by
        rcases List.mem_cons.mp hz with rfl | hz
        · exact ok
        · exact e2 z hz⟩
  | .non :: _, _, _, .cons _ _, e => by cases e
  | .bl _ :: _, _, _, .cons _ _, e => by cases e
  | .int _ :: _, _, _, .cons _ _, e => by cases e
  | .tup _ :: _, _, _, .cons _ _, e => by cases e
  | .lst _ :: _, _, _, .cons _ _, e => by cases e
  | .dic _ _ _ :: _, _, _, .cons _ _, e => by cases e
  | .scr _ :: _, _, _, .cons _ _, e => by cases e
  | .cel _ :: _, _, _, .cons _ _, e => by cases e
theorem VRs.ofInts : ∀ ns : List Int, VRs K M H (ns.map .int) (ns.map V.int)
  | [] => .nil
  | _ :: r => .cons (.int _) (VRs.ofInts r)
end

/-! ### a value as it is read: a cell may be the value itself -/
inductive VT (K : Fg) (M : Ml) (H : Hp) : PV → V → Prop
  | of {x : PV} {v : V} : VR K M H x v → VT K M H x v
  | lst {p : Addr} {vs : List PV} {xs : List V} : H p = some (.lst xs) → VRs K M H vs xs → VT K M H (.lst vs) (.ref p)
  | dicK {p : Addr} {vs : List PV} {kvs : List (Key × V)} : H p = some (.dK kvs) → VRs K M H vs (kvs.map Prod.snd) → VT K M H (.dic false (kvs.map fun kv => keyPV kv.1) vs) (.ref p)
  | dicT {p : Addr} {ks vs : List PV} {xs : RX} : H p = some (rawO p xs) → KeyR ks xs → VRs K M H ks (xs.map fun x => V.ref x.2.1) → VRs K M H vs (xs.map fun x => x.2.2) → VT K M H (.dic true ks vs) (.ref p)
section
variable {K : Fg} {M M' : Ml} {H H' : Hp}
theorem VT.int {i : Int} {v : V} (h : VT K M H (.int i) v) : v = .int i := by cases h with | of h => cases h; rfl
theorem VT.bl {i : Bool} {v : V} (h : VT K M H (.bl i) v) : v = .bl i := by cases h with | of h => cases h; rfl
theorem VT.non {v : V} (h : VT K M H .non v) : v = .non := by cases h with | of h => cases h; rfl
theorem VT.str {x : List Nat} {v : V} (h : VT K M H (.str x) v) : v = .str ⟨x.toArray⟩ ∧ okS x := by cases h with | of h => cases h with | str _ ok => exact ⟨rfl, ok⟩
theorem VT.tup {x : List PV} {v : V} (h : VT K M H (.tup x) v) : ∃ p xs, v = .ref p ∧ SqT K H p xs ∧ VRs K M H x xs := by
  cases h with
  | of h => cases h with | tup h r => exact ⟨_, _, rfl, h, r⟩
theorem VT.scr' {x : List PV} {v : V} (h : VT K M H (.scr x) v) : ∃ p xs, v = .ref p ∧ SqL K H p xs ∧ VRs K M H x xs := by
  cases h with
  | of h => cases h with
    | scr h r => exact ⟨_, _, rfl, .inl (.inr ⟨_, h⟩), r⟩
    | scrK h r => exact ⟨_, _, rfl, h H, r⟩
theorem VT.lst' {x : List PV} {v : V} (h : VT K M H (.lst x) v) : ∃ p xs, v = .ref p ∧ H p = some (.lst xs) ∧ VRs K M H x xs := by
  cases h with
  | of h => cases h with | lst h _ r => exact ⟨_, _, rfl, h, r⟩
  | lst h r => exact ⟨_, _, rfl, h, r⟩
theorem VT.dic' {t : Bool} {ks vs : List PV} {v : V} (h : VT K M H (.dic t ks vs) v) : ∃ p, v = .ref p ∧ ((∃ kvs : List (Key × V), t = false ∧ H p = some (.dK kvs) ∧ ks = kvs.map (fun kv => keyPV kv.1) ∧ VRs K M H vs (kvs.map Prod.snd)) ∨
    ∃ xs : RX, t = true ∧ H p = some (rawO p xs) ∧ KeyR ks xs ∧ VRs K M H ks (xs.map fun x => V.ref x.2.1) ∧ VRs K M H vs (xs.map fun x => x.2.2)) := by
  cases h with
  | of h => cases h with
    | dicK h _ r => exact ⟨_, rfl, .inl ⟨_, rfl, h, rfl, r⟩⟩
    | dicT h _ kr a r => exact ⟨_, rfl, .inr ⟨_, rfl, h, kr, a, r⟩⟩
  | dicK h r => exact ⟨_, rfl, .inl ⟨_, rfl, h, rfl, r⟩⟩
  | dicT h kr a r => exact ⟨_, rfl, .inr ⟨_, rfl, h, kr, a, r⟩⟩
end

/-! ### the store beside the abstract heap -/
/-- where the cells stand; the cells of those that called, which stay as they are -/
structure Rh where
  at_ : Nat → Addr
  F : Addr → Prop
instance : CoeFun Rh (fun _ => Nat → Addr) := ⟨Rh.at_⟩
def Lv (ρ : Rh) (S : Store) (p : Addr) : Prop := ∃ (a : Nat) (x : PV), S[a]? = some (.live x) ∧ ρ a = p
def holds : Cell → Option PV
  | .live x => some x
  | .lock x => some x
  | .dead => none
/-- cell a holds x, changing or not -/
def At (S : Store) (a : Nat) (x : PV) : Prop := ∃ c, S[a]? = some c ∧ holds c = some x
def Mu (ρ : Rh) (S : Store) : Ml
  | 0, p => ρ.F p ∨ ∃ a x, At S a x ∧ ρ a = p
  | a + 1, p => a < S.length ∧ ρ a = p
theorem Lv.mu {ρ : Rh} {S : Store} {p : Addr} (h : Lv ρ S p) : Mu ρ S 0 p := by
  obtain ⟨a, x, e, r⟩ := h
  exact .inr ⟨a, x, ⟨_, e, rfl⟩, r⟩
/-- a cell's content -/
inductive CV (K : Fg) (M : Ml) (H : Hp) (p : Addr) : PV → Prop
  | lst {vs : List PV} {xs : List V} : H p = some (.lst xs) → VRs K M H vs xs → CV K M H p (.lst vs)
  | dicK {vs : List PV} {kvs : List (Key × V)} : H p = some (.dK kvs) → VRs K M H vs (kvs.map Prod.snd) → CV K M H p (.dic false (kvs.map fun kv => keyPV kv.1) vs)
  | dicT {ks vs : List PV} {xs : RX} : H p = some (rawO p xs) → KeyR ks xs → VRs K M H ks (xs.map fun x => V.ref x.2.1) → VRs K M H vs (xs.map fun x => x.2.2) → CV K M H p (.dic true ks vs)
theorem CV.vt {K : Fg} {M : Ml} {H : Hp} {p : Addr} {x : PV} (h : CV K M H p x) : VT K M H x (.ref p) := by
  cases h with
  | lst h r => exact .lst h r
  | dicK h r => exact .dicK h r
  | dicT h kr a r => exact .dicT h kr a r
theorem CV.mut {K : Fg} {M : Ml} {H : Hp} {p : Addr} {x : PV} (h : CV K M H p x) : ∃ o, H p = some o ∧ Mut (some o) := by
  cases h with
  | lst h r => exact ⟨_, h, trivial⟩
  | dicK h r => exact ⟨_, h, trivial⟩
  | dicT h kr a r => exact ⟨_, h, trivial⟩
theorem CV.sub {K : Fg} {M M' : Ml} {H : Hp} {p : Addr} {x : PV} (h : CV K M H p x) (m : MutOk M H) (s : ∀ q, M' 0 q → M 0 q) (ad : ∀ a q, M (a + 1) q → M' (a + 1) q) : CV K M' H p x := by
  have mv : Move M H M' H := ⟨m, fun _ _ h _ => h, fun p h => .inl (s p h), ad⟩
  cases h with
  | lst h r => exact .lst h (r.move mv)
  | dicK h r => exact .dicK h (r.move mv)
  | dicT h kr a r => exact .dicT h kr (a.move mv) (r.move mv)
theorem CV.subC {K : Fg} {M M' : Ml} {H : Hp} {p : Addr} {x : PV} (h : CV K M H p x) (m : MutOk M H) (s : ∀ q, M' 0 q → M 0 q) (c : noC x = true) : CV K M' H p x := by
  cases h with
  | lst h r => exact .lst h (r.moveC m (fun _ _ h _ => h) (fun p h => .inl (s p h)) c)
  | dicK h r => exact .dicK h (r.moveC m (fun _ _ h _ => h) (fun p h => .inl (s p h)) c)
  | dicT h kr a r => exact .dicT h kr (a.moveC m (fun _ _ h _ => h) (fun p h => .inl (s p h)) (noCs_keys _ kr.1)) (r.moveC m (fun _ _ h _ => h) (fun p h => .inl (s p h)) c)
/-- .. whose items and address stay -/
theorem CV.move {K : Fg} {M M' : Ml} {H H' : Hp} {p : Addr} {x : PV} (m : Move M H M' H') (e : ∀ o, H p = some o → H' p = some o) (h : CV K M H p x) : CV K M' H' p x := by
  cases h with
  | lst h r => exact .lst (e _ h) (r.move m)
  | dicK h r => exact .dicK (e _ h) (r.move m)
  | dicT h kr a r => exact .dicT (e _ h) kr (a.move m) (r.move m)
theorem CV.vr {K : Fg} {M : Ml} {H : Hp} {p : Addr} {x : PV} (h : CV K M H p x) (n : ¬ M 0 p) : VR K M H x (.ref p) := by
  cases h with
  | lst h r => exact .lst h n r
  | dicK h r => exact .dicK h n r
  | dicT h kr a r => exact .dicT h n kr a r
theorem VR.cv {K : Fg} {M : Ml} {H : Hp} {x : PV} {v : V} (h : VR K M H x v) (c : isCon x = true) : ∃ p, v = .ref p ∧ CV K M H p x ∧ ¬ M 0 p := by
  cases h with
  | lst h n r => exact ⟨_, rfl, .lst h r, n⟩
  | dicK h n r => exact ⟨_, rfl, .dicK h r, n⟩
  | dicT h n kr a r => exact ⟨_, rfl, .dicT h kr a r, n⟩
  | _ => cases c
structure Sim (K : Fg) (ρ : Rh) (S : Store) (H : Hp) : Prop where
  inj : ∀ a b x y, At S a x → At S b y → ρ a = ρ b → a = b
  fok : ∀ p, ρ.F p → ∃ o, H p = some o ∧ Mut (some o)
  dis : ∀ a x, At S a x → ¬ ρ.F (ρ a)
  cell : ∀ a x, At S a x → CV K (Mu ρ S) H (ρ a) x
theorem at_lt {S : Store} {a : Nat} {y : PV} (h : At S a y) : a < S.length := by
  obtain ⟨c, e, q⟩ := h
  exact (List.getElem?_eq_some_iff.mp e).1
/-- as Le, whatever the frames of those that called are -/
structure Lq (ρ : Rh) (S : Store) (H : Hp) (ρ' : Rh) (S' : Store) (H' : Hp) : Prop where
  keep : ∀ p o, H p = some o → ¬ Lv ρ S p → H' p = some o
  lv : ∀ p, Lv ρ' S' p → Lv ρ S p ∨ H p = none
  mu : ∀ p, Mu ρ' S' 0 p → Mu ρ S 0 p ∨ H p = none
  lk : ∀ (a : Nat) (x : PV), S[a]? = some (.lock x) → S'[a]? = some (.lock x)
  eq : ∀ a, a < S.length → ρ' a = ρ a
  len : S.length ≤ S'.length
  dom : ∀ p, H' p = none → H p = none
  new : ∀ a x, At S' a x → (a < S.length ∧ ∃ y, At S a y) ∨ (S.length ≤ a ∧ H (ρ' a) = none)
structure Le (ρ : Rh) (S : Store) (H : Hp) (ρ' : Rh) (S' : Store) (H' : Hp) : Prop where
  fr : ρ'.F = ρ.F
  keep : ∀ p o, H p = some o → ¬ Lv ρ S p → H' p = some o
  lv : ∀ p, Lv ρ' S' p → Lv ρ S p ∨ H p = none
  mu : ∀ p, Mu ρ' S' 0 p → Mu ρ S 0 p ∨ H p = none
  lk : ∀ (a : Nat) (x : PV), S[a]? = some (.lock x) → S'[a]? = some (.lock x)
  eq : ∀ a, a < S.length → ρ' a = ρ a
  len : S.length ≤ S'.length
  dom : ∀ p, H' p = none → H p = none
  new : ∀ a x, At S' a x → (a < S.length ∧ ∃ y, At S a y) ∨ (S.length ≤ a ∧ H (ρ' a) = none)
def VE (K : Fg) (ρ : Rh) (S : Store) (H : Hp) : EV → V → Prop
  | .v x, v => VR K (Mu ρ S) H x v
  | .n x, v => VR K (Mu ρ S) H x v
  | .r a, v => v = .ref (ρ a) ∧ a < S.length
def VS (K : Fg) (ρ : Rh) (S : Store) (H : Hp) : EV → V → Prop
  | .v x, v => VR K (Mu ρ S) H x v
  | .n _, _ => False
  | .r a, v => v = .ref (ρ a) ∧ a < S.length
def Rh.plus (ρ : Rh) (q : Addr) : Rh := ⟨ρ.at_, fun p => ρ.F p ∨ p = q⟩
/-- nobody else holds it: it was not there, and nothing that is known leans on it -/
def New (K : Fg) (ρ' : Rh) (S' : Store) (H' H0 : Hp) : EV → V → Prop
  | .n x, v => ∀ p, v = .ref p → H0 p = none ∧ (isCon x = true → Sim K (ρ'.plus p) S' H' ∧ CV K (Mu (ρ'.plus p) S') H' p x)
  | _, _ => True
structure ER (K : Fg) (ρ : Rh) (S : Store) (H : Hp) (E : Env) (σ : L2.St) : Prop where
  len : E.length = σ.length
  at_ : ∀ (i : Nat) (x : EV), E[i]? = some (some x) → ∃ v, σ[i]? = some (some v) ∧ VS K ρ S H x v
section
variable {K : Fg} {ρ ρ' ρ1 : Rh} {S S' S1 : Store} {H H' H1 : Hp}
theorem Sim.mutOk (s : Sim K ρ S H) : MutOk (Mu ρ S) H := fun p h => by
  rcases h with h | ⟨a, x, e, r⟩
  · exact s.fok p h
  · subst r
    exact (s.cell a x e).mut
theorem Le.refl : Le ρ S H ρ S H := ⟨rfl, fun _ _ h _ => h, fun _ h => .inl h, fun _ h => .inl h, fun _ _ h => h, fun _ _ => rfl, Nat.le_refl _, fun _ h => h, fun a x h => .inl ⟨at_lt h, x, h⟩⟩
theorem Le.trans (a : Le ρ S H ρ1 S1 H1) (b : Le ρ1 S1 H1 ρ' S' H') : Le ρ S H ρ' S' H' where
  fr := b.fr.trans a.fr
  keep := fun p o h n => b.keep p o (a.keep p o h n) fun z => by
    rcases a.lv p z with z | z
    · exact n z
    · rw [h] at z; cases z
  lv := fun p z => by
    rcases b.lv p z with z | z
    · exact a.lv p z
    · exact .inr (a.dom p z)
  mu := fun p z => by
    rcases b.mu p z with z | z
    · exact a.mu p z
    · exact .inr (a.dom p z)
  lk := fun i x h => b.lk i x (a.lk i x h)
  eq := fun i h => (b.eq i (Nat.lt_of_lt_of_le h a.len)).trans (a.eq i h)
  len := Nat.le_trans a.len b.len
  dom := fun p h => a.dom p (b.dom p h)
  new := fun i x h => by
    rcases b.new i x h with ⟨l1, y, h1⟩ | ⟨l1, h1⟩
    · rcases a.new i y h1 with ⟨l2, h2⟩ | ⟨l2, h2⟩
      · exact .inl ⟨l2, h2⟩
      · exact .inr ⟨l2, by rw [b.eq i l1]; exact h2⟩
    · exact .inr ⟨Nat.le_trans a.len l1, a.dom _ h1⟩
theorem Le.lq (l : Le ρ S H ρ' S' H') : Lq ρ S H ρ' S' H' := ⟨l.keep, l.lv, l.mu, l.lk, l.eq, l.len, l.dom, l.new⟩
theorem Lq.le (l : Lq ρ S H ρ' S' H') (e : ρ'.F = ρ.F) : Le ρ S H ρ' S' H' := ⟨e, l.keep, l.lv, l.mu, l.lk, l.eq, l.len, l.dom, l.new⟩
theorem Lq.trans (a : Lq ρ S H ρ1 S1 H1) (b : Lq ρ1 S1 H1 ρ' S' H') : Lq ρ S H ρ' S' H' where
  keep := fun p o h n => b.keep p o (a.keep p o h n) fun z => by
    rcases a.lv p z with z | z
    · exact n z
    · rw [h] at z; cases z
  lv := fun p z => by
    rcases b.lv p z with z | z
    · exact a.lv p z
    · exact .inr (a.dom p z)
  mu := fun p z => by
    rcases b.mu p z with z | z
    · exact a.mu p z
    · exact .inr (a.dom p z)
  lk := fun i x h => b.lk i x (a.lk i x h)
  eq := fun i h => (b.eq i (Nat.lt_of_lt_of_le h a.len)).trans (a.eq i h)
  len := Nat.le_trans a.len b.len
  dom := fun p h => a.dom p (b.dom p h)
  new := fun i x h => by
    rcases b.new i x h with ⟨l1, y, h1⟩ | ⟨l1, h1⟩
    · rcases a.new i y h1 with ⟨l2, h2⟩ | ⟨l2, h2⟩
      · exact .inl ⟨l2, h2⟩
      · exact .inr ⟨l2, by rw [b.eq i l1]; exact h2⟩
    · exact .inr ⟨Nat.le_trans a.len l1, a.dom _ h1⟩
theorem Lq.move (s : Sim K ρ S H) (l : Lq ρ S H ρ' S' H') : Move (Mu ρ S) H (Mu ρ' S') H' := ⟨s.mutOk, fun p o h n => l.keep p o h fun z => n z.mu, l.mu, fun a p ⟨h1, h2⟩ => ⟨Nat.lt_of_lt_of_le h1 l.len, (l.eq a h1).trans h2⟩⟩
theorem Le.move (s : Sim K ρ S H) (l : Le ρ S H ρ' S' H') : Move (Mu ρ S) H (Mu ρ' S') H' := ⟨s.mutOk, fun p o h n => l.keep p o h fun z => n z.mu, l.mu, fun a p ⟨h1, h2⟩ => ⟨Nat.lt_of_lt_of_le h1 l.len, (l.eq a h1).trans h2⟩⟩
theorem VE.move (s : Sim K ρ S H) (l : Le ρ S H ρ' S' H') : ∀ {x : EV} {v : V}, VE K ρ S H x v → VE K ρ' S' H' x v
  | .v _, _, h => VR.move (l.move s) h
  | .n _, _, h => VR.move (l.move s) h
  | .r a, _, ⟨e, h⟩ => ⟨by rw [e, l.eq a h], Nat.lt_of_lt_of_le h l.len⟩
theorem VS.move (s : Sim K ρ S H) (l : Le ρ S H ρ' S' H') : ∀ {x : EV} {v : V}, VS K ρ S H x v → VS K ρ' S' H' x v
  | .v _, _, h => VR.move (l.move s) h
  | .n _, _, h => h.elim
  | .r a, _, ⟨e, h⟩ => ⟨by rw [e, l.eq a h], Nat.lt_of_lt_of_le h l.len⟩
theorem VS.moveq (s : Sim K ρ S H) (l : Lq ρ S H ρ' S' H') : ∀ {x : EV} {v : V}, VS K ρ S H x v → VS K ρ' S' H' x v
  | .v _, _, h => VR.move (l.move s) h
  | .n _, _, h => h.elim
  | .r a, _, ⟨e, h⟩ => ⟨by rw [e, l.eq a h], Nat.lt_of_lt_of_le h l.len⟩
theorem VS.ve : ∀ {x : EV} {v : V}, VS K ρ S H x v → VE K ρ S H x v
  | .v _, _, h => h
  | .n _, _, h => h.elim
  | .r a, _, h => h
theorem VS.new {H0 : Hp} : ∀ {x : EV} {v : V}, VS K ρ S H x v → New K ρ' S' H' H0 x v
  | .v _, _, h => trivial
  | .n _, _, h => h.elim
  | .r a, _, h => trivial
theorem ER.move {E : Env} {σ : L2.St} (s : Sim K ρ S H) (l : Le ρ S H ρ' S' H') (e : ER K ρ S H E σ) : ER K ρ' S' H' E σ := ⟨e.len, fun i x h => by
  obtain ⟨v, h1, h2⟩ := e.at_ i x h
  exact ⟨v, h1, h2.move s l⟩⟩
theorem ER.moveq {E : Env} {σ : L2.St} (s : Sim K ρ S H) (l : Lq ρ S H ρ' S' H') (e : ER K ρ S H E σ) : ER K ρ' S' H' E σ := ⟨e.len, fun i x h => by
  obtain ⟨v, h1, h2⟩ := e.at_ i x h
  exact ⟨v, h1, h2.moveq s l⟩⟩
theorem New.le (l : Le ρ S H ρ1 S1 H1) : ∀ {x : EV} {v : V}, New K ρ' S' H' H1 x v → New K ρ' S' H' H x v
  | .v _, _, _ => trivial
  | .n _, _, h => fun p e => ⟨l.dom p (h p e).1, (h p e).2⟩
  | .r a, _, _ => trivial
theorem Same.dom (s : Same H H') : ∀ p, H' p = none → H p = none := fun p h => s.free h
theorem Le.same (s : Same H H') : Le ρ S H ρ S H' := ⟨rfl, fun p o h _ => s p o h, fun _ h => .inl h, fun _ h => .inl h, fun _ _ h => h, fun _ _ => rfl, Nat.le_refl _, Same.dom s, fun a x h => .inl ⟨at_lt h, x, h⟩⟩
theorem Sim.same (s : Sim K ρ S H) (e : Same H H') : Sim K ρ S H' := ⟨s.inj, (fun p h => let ⟨o, q, m⟩ := s.fok p h; ⟨o, e p o q, m⟩), s.dis, fun a x h => (s.cell a x h).move (.same s.mutOk e) fun o q => e _ o q⟩
/-- a new list or dict beside what is known -/
theorem Sim.plus (s : Sim K ρ S H) (e : Same H H') {q : Addr} (hq : H q = none) (hm : ∃ o, H' q = some o ∧ Mut (some o)) : Sim K (ρ.plus q) S H' := by
  have mv : Move (Mu ρ S) H (Mu (ρ.plus q) S) H' := ⟨s.mutOk, fun p o h _ => e p o h, fun p h => by
    rcases h with (h | h) | h
    · exact .inl (.inl h)
    · subst h; exact .inr hq
    · exact .inl (.inr h), fun _ _ h => h⟩
  refine ⟨s.inj, fun p h => ?_, fun a x h z => ?_, fun a x h => (s.cell a x h).move mv fun o q => e _ o q⟩
  · rcases h with h | h
    · obtain ⟨o, h1, h2⟩ := s.fok p h
      exact ⟨o, e _ _ h1, h2⟩
    · subst h; exact hm
  · rcases z with z | z
    · exact s.dis a x h z
    · obtain ⟨o, h1, _⟩ := (s.cell a x h).mut
      have z : ρ a = q := z
      rw [z, hq] at h1; cases h1
theorem VR.con {M : Ml} {x : PV} {p : Addr} (h : VR K M H x (.ref p)) (c : isCon x = true) : ∃ o, H p = some o ∧ Mut (some o) := by
  obtain ⟨q, e, h, _⟩ := h.cv c
  cases e
  exact h.mut
theorem rd_at {a : Nat} {p : PV} (q : rd S (.r a) = some p) : At S a p := by
  have q : (match S[a]? with
    | some (.live x) => some x
    | some (.lock x) => some x
    | _ => none) = some p := q
  cases z : S[a]? with
  | none => rw [z] at q; cases q
  | some c =>
    rw [z] at q
    cases c with
    | live x => exact ⟨_, z, q⟩
    | lock x => exact ⟨_, z, q⟩
    | dead => cases q
theorem VE.vt (s : Sim K ρ S H) : ∀ {x : EV} {v : V} {p : PV}, VE K ρ S H x v → rd S x = some p → VT K (Mu ρ S) H p v
  | .v _, _, _, h, e => by cases e; exact .of h
  | .n _, _, _, h, e => by cases e; exact .of h
  | .r a, _, p, ⟨e, h⟩, q => by
    subst e
    exact (s.cell a p (rd_at q)).vt
theorem VE.stor : ∀ {x : EV} {v : V} {p : PV}, VE K ρ S H x v → stor x = some p → VR K (Mu ρ S) H p v
  | .v _, _, _, h, e => by cases e; exact h
  | .n _, _, _, h, e => by cases e; exact h
  | .r a, _, _, h, e => by
    cases e
    obtain ⟨rfl, h⟩ := h
    exact .cel ⟨h, rfl⟩
theorem VE.toR {x : PV} {v : V} (h : VR K (Mu ρ S) H x v) : VE K ρ S H (Py.toR x) v := by
  cases h with
  | cel h => exact ⟨congrArg V.ref h.2.symm, h.1⟩
  | non => exact VR.non
  | bl b => exact VR.bl b
  | int i => exact VR.int i
  | str x h => exact VR.str x h
  | tup h r => exact VR.tup h r
  | lst h n r => exact VR.lst h n r
  | dicK h n r => exact VR.dicK h n r
  | dicT h n kr a r => exact VR.dicT h n kr a r
  | scr h r => exact VR.scr h r
  | scrK h r => exact VR.scrK h r
theorem VS.toR {x : PV} {v : V} (h : VR K (Mu ρ S) H x v) : VS K ρ S H (Py.toR x) v := by
  cases h with
  | cel h => exact ⟨congrArg V.ref h.2.symm, h.1⟩
  | non => exact VR.non
  | bl b => exact VR.bl b
  | int i => exact VR.int i
  | str x h => exact VR.str x h
  | tup h r => exact VR.tup h r
  | lst h n r => exact VR.lst h n r
  | dicK h n r => exact VR.dicK h n r
  | dicT h n kr a r => exact VR.dicT h n kr a r
  | scr h r => exact VR.scr h r
  | scrK h r => exact VR.scrK h r
theorem New.toR {ρ' : Rh} {S' : Store} {H' H0 : Hp} {x : PV} {v : V} : New K ρ' S' H' H0 (Py.toR x) v := by
  cases x <;> trivial
end
end Py

set_option Elab.async false
set_option linter.all false
set_option maxRecDepth 100000
set_option maxHeartbeats 4000000
namespace Py
open PySem PySem.Spec PyProof.Rows L2
/-! ### what an operator hands back -/
def ZV (K : Fg) (M : Ml) (H' H : Hp) : EV → V → Prop
  | .v x, v => VR K M H' x v
  | .n x, v => VR K M H' x v ∧ ∀ p, v = .ref p → H p = none ∧ (isCon x = true → CV K (fun o q => M o q ∨ (o = 0 ∧ q = p)) H' p x)
  | .r _, _ => False
def ZR (K : Fg) (M : Ml) (H : Hp) (z : EV) (Q : VK) : Prop := ∀ v H', Same H H' → ZV K M H' H z v → Q v H'
theorem same_new {H : Hp} {p : Addr} {o : HO} (h : H p = none) : Same H (upd H p o) := fun b x e => by
  rw [upd_ne (ne_of_none e h)]
  exact e
section
variable {K : Fg} {M : Ml} {H : Hp} {Q : VK}
theorem MutOk.new (m : MutOk M H) {p : Addr} (h : H p = none) : ¬ M 0 p := fun z => by
  obtain ⟨o, e, _⟩ := m p z
  rw [h] at e; cases e
theorem ZR.lst (m : MutOk M H) {vs : List PV} {xs : List V} (r : VRs K M H vs xs) (k : ZR K M H (.n (.lst vs)) Q) : ∀ p, H p = none → Q (.ref p) (upd H p (.lst xs)) := fun p h =>
  k _ _ (same_new h) ⟨.lst upd_same (m.new h) (r.move (.same m (same_new h))), fun q e => by
    cases e
    exact ⟨h, fun _ => .lst upd_same (r.move ⟨m, fun q o e _ => same_new h q o e, fun q z => z.imp id fun z => by rw [z.2]; exact h, fun _ _ z => .inl z⟩)⟩⟩
theorem ZR.tup (m : MutOk M H) {vs : List PV} {xs : List V} (r : VRs K M H vs xs) (k : ZR K M H (.v (.tup vs)) Q) : ∀ p, H p = none → Q (.ref p) (upd H p (.tup xs)) := fun p h =>
  k _ _ (same_new h) (.tup (SqT.of upd_same) (r.move (.same m (same_new h))))
theorem ZR.val {x : PV} {v : V} (r : VR K M H x v) (k : ZR K M H (.v x) Q) : Q v H := k _ _ (Same.refl H) r
end
def rB (K : Fg) (f : PV → PV → Option EV) : R2 := fun x y H Q => ∃ M p q z, MutOk M H ∧ VT K M H p x ∧ VT K M H q y ∧ f p q = some z ∧ ZR K M H z Q
def opOf : BOp → Operator
  | .add => .Add | .sub => .Sub | .mul => .Mult | .fdiv => .FloorDiv | .mod => .Mod | .pow => .Pow | .shl => .LShift
theorem line_eq : line = sizeLine := by rw [sizeLine_eq]; rfl
section
variable {X : Cx}
def CDivN9 (_ j : Int) : Prop := j ≠ 0 ∧ j.natAbs.log2 < 9000
theorem op_fdiv9 : OpR X (binaryOp .FloorDiv) (rI CDivN9 fun i j => .int (i.fdiv j)) := opI fun _ _ _ _ _ _ _ hc q => floordiv_int hc.1 q (.inl (PyProof.noPylong_of_log2 hc.2))
theorem bits64 {i : Int} (h : i.natAbs < 18446744073709551616) : Builtin.Int.intBits i ≤ 64 := by
  unfold Builtin.Int.intBits
  split
  · omega
  · rename_i h0
    have h1 : i.natAbs ≠ 0 := by
      intro z
      exact h0 (by simpa using z)
    have := (Nat.log2_lt h1).mpr (show i.natAbs < 2 ^ 64 from h)
    omega
theorem mulOk_of {i j : Int} (h : mulOk i j = true) : IntMulOk i j := by
  unfold mulOk at h
  rw [Bool.or_eq_true, Bool.or_eq_true] at h
  rcases h with h | h | h
  · exact .of_left (bits64 (Nat.le_of_ble_eq_true h))
  · exact .of_right (bits64 (Nat.le_of_ble_eq_true h))
  · exact CMulW.ok (Nat.le_of_ble_eq_true h)
theorem op_mulM : OpR X (binaryOp .Mult) (rI IntMulOk fun i j => .int (i * j)) := opI fun _ _ _ _ _ _ _ hc q => mul_int q hc
theorem okS.app {x y : List Nat} (a : okS x) (b : okS y) (z : x.length + y.length ≤ line) : okS (x ++ y) := ⟨fun c h => by
  rcases List.mem_append.mp h with h | h
  · exact a.1 c h
  · exact b.1 c h, by rw [List.length_append]; exact z⟩
theorem str_app (x y : List Nat) : ((⟨x.toArray⟩ : Str) ++ (⟨y.toArray⟩ : Str)) = ⟨(x ++ y).toArray⟩ := by
  show Str.append _ _ = _
  unfold Str.append
  simp
theorem str_len (x : List Nat) : (⟨x.toArray⟩ : Str).length = x.length := by
  show Array.size _ = _
  simp
theorem op_int (op : BOp) {i j : Int} {z : PV} {pins : List (Addr × Obj)} {s : Shared} {σ : L2.St} {H : Hp} {v u : Value} {Q : VK} (I : Inv X pins σ H s) (rx : RelV (.int i) v) (ry : RelV (.int j) u) (e : binI op i j = some z)
    (h : ∀ k, z = .int k → Q (.int k) H) : wpAny (model X.prog X.w) X.A (binaryOp (opOf op) v u) (EP X pins σ Q) X.xe s := by
  cases op with
  | add => cases e; exact op_add pins s σ H _ _ v u Q I rx ry ⟨i, j, rfl, rfl, h _ rfl⟩
  | sub => cases e; exact op_sub pins s σ H _ _ v u Q I rx ry ⟨i, j, rfl, rfl, h _ rfl⟩
  | mul =>
    simp only [binI] at e
    split at e
    · rename_i hc
      cases e
      exact op_mulM pins s σ H _ _ v u Q I rx ry ⟨i, j, rfl, rfl, mulOk_of hc, h _ rfl⟩
    · cases e
  | fdiv =>
    simp only [binI] at e
    split at e
    · rename_i hc
      cases e
      rw [Bool.and_eq_true] at hc
      have h1 : j ≠ 0 := by simpa using hc.1
      exact op_fdiv9 pins s σ H _ _ v u Q I rx ry ⟨i, j, rfl, rfl, ⟨h1, Nat.le_of_ble_eq_true hc.2⟩, h _ rfl⟩
    · cases e
  | mod =>
    simp only [binI] at e
    split at e
    · rename_i hc
      cases e
      have h1 : j ≠ 0 := by simpa using hc
      exact op_modN pins s σ H _ _ v u Q I rx ry ⟨i, j, rfl, rfl, h1, h _ rfl⟩
    · cases e
  | pow =>
    simp only [binI] at e
    split at e
    · rename_i hc
      cases e
      simp only [Bool.and_eq_true, decide_eq_true_eq] at hc
      exact op_pow pins s σ H _ _ v u Q I rx ry ⟨i, j, rfl, rfl, ⟨hc.1.1, hc.1.2, Nat.le_of_ble_eq_true hc.2⟩, h _ rfl⟩
    · cases e
  | shl =>
    simp only [binI] at e
    split at e
    · rename_i hc
      cases e
      simp only [Bool.and_eq_true, decide_eq_true_eq] at hc
      exact op_shl pins s σ H _ _ v u Q I rx ry ⟨i, j, rfl, rfl, ⟨hc.1.1, hc.1.2, Nat.le_of_ble_eq_true hc.2⟩, h _ rfl⟩
    · cases e
theorem mul_rep (x : List Nat) (n : Int) : (PySem.Txt.mul ⟨x.toArray⟩ n) = ⟨((List.replicate n.toNat x).flatten).toArray⟩ := by
  unfold PySem.Txt.mul
  split
  · rename_i h
    rw [show n.toNat = 0 by omega]
    rfl
  · split
    · rename_i h1 h2
      rcases Bool.or_eq_true_iff.mp h2 with h | h
      · have : n = 1 := by simpa using h
        subst this
        simp
      · have hx : x = [] := by
          have h : (⟨x.toArray⟩ : Str).length = 0 := by simpa using h
          rw [str_len] at h
          exact List.length_eq_zero_iff.mp h
        subst hx
        simp
    · have key : ∀ (k : Nat) (acc : Array Nat), (List.replicate k x.toArray).foldl (· ++ ·) acc = acc ++ ((List.replicate k x).flatten).toArray := by
        intro k
        induction k with
        | zero => intro acc; simp
        | succ k ih =>
          intro acc
          rw [List.replicate_succ, List.foldl_cons, ih, List.replicate_succ, List.flatten_cons]
          simp
      congr 1
      have := key n.toNat #[]
      simpa using this
theorem flat_mem (x : List Nat) : ∀ (k : Nat) (c : Nat), c ∈ (List.replicate k x).flatten → c ∈ x
  | 0, c, h => by simp at h
  | k + 1, c, h => by
    rw [List.replicate_succ, List.flatten_cons] at h
    rcases List.mem_append.mp h with h | h
    · exact h
    · exact flat_mem x k c h
theorem flat_len (x : List Nat) : ∀ (k : Nat), ((List.replicate k x).flatten).length = x.length * k
  | 0 => by simp
  | k + 1 => by
    rw [List.replicate_succ, List.flatten_cons, List.length_append, flat_len x k, Nat.mul_succ]
    omega
theorem okS.rep {x : List Nat} (h : okS x) {k : Nat} (hk : x.length * k ≤ line) : okS (List.replicate k x).flatten := ⟨fun c hc => h.1 c (flat_mem x k c hc), by rw [flat_len]; exact hk⟩
theorem op_bin (op : BOp) : OpR X (binaryOp (opOf op)) (rB X.K (binop op)) := by
  intro pins s σ H x y v u Q I rx ry h
  obtain ⟨M, p, q, z, mo, hp, hq, e, k⟩ := h
  unfold binop at e
  split at e
  · cases hp.int
    cases hq.int
    cases e' : binI op _ _ with
    | none => rw [e'] at e; cases e
    | some z' =>
      rw [e'] at e
      cases e
      refine op_int op I rx ry e' fun n en => ?_
      subst en
      exact ZR.val (.int n) k
  · obtain ⟨e1, o1⟩ := hp.str
    obtain ⟨e2, o2⟩ := hq.str
    subst e1 e2
    split at e
    · split at e
      · rename_i hz
        cases e
        refine op_add_str pins s σ H _ _ v u Q I rx ry ⟨_, _, rfl, rfl, ?_, ?_⟩
        · rw [str_len, str_len, ← line_eq]
          exact Nat.le_of_ble_eq_true hz
        · rw [str_app]
          exact ZR.val (.str _ (o1.app o2 (Nat.le_of_ble_eq_true hz))) k
      · cases e
    · cases e
  · obtain ⟨a, xs, rfl, h1, r1⟩ := hp.lst'
    obtain ⟨b, ys, rfl, h2, r2⟩ := hq.lst'
    split at e
    · split at e
      · rename_i hz
        cases e
        refine op_cat pins s σ H _ _ v u Q I rx ry ⟨a, b, xs, ys, rfl, rfl, h1, h2, ?_, ZR.lst mo (r1.append r2) k⟩
        rw [← r1.length, ← r2.length, ← line_eq]
        exact Nat.le_of_ble_eq_true hz
      · cases e
    · cases e
  · obtain ⟨a, xs, rfl, h1, r1⟩ := hp.tup
    obtain ⟨b, ys, rfl, h2, r2⟩ := hq.tup
    split at e
    · split at e
      · rename_i hz
        cases e
        refine op_catA pins s σ H _ _ v u Q I rx ry ⟨a, b, xs, ys, rfl, rfl, h1, h2, ?_, fun e0 => ?_, fun _ e0 => ?_, fun _ _ => ZR.tup mo (r1.append r2) k⟩
        · rw [← r1.length, ← r2.length, ← line_eq]
          exact Nat.le_of_ble_eq_true hz
        · subst e0
          cases r1
          exact ZR.val (.tup h2 r2) k
        · subst e0
          cases r2
          rw [List.append_nil] at k
          exact ZR.val (.tup h1 r1) k
      · cases e
    · cases e
  · obtain ⟨a, xs, rfl, h1, r1⟩ := hp.lst'
    cases hq.int
    split at e
    · split at e
      · rename_i hz
        cases e
        simp only [Bool.and_eq_true, decide_eq_true_eq] at hz
        refine op_rep pins s σ H _ _ v u Q I rx ry ⟨a, _, xs, rfl, rfl, h1, by omega, by omega, ?_, ZR.lst mo (r1.rep _) k⟩
        rw [← r1.length, ← line_eq]
        exact Nat.le_of_ble_eq_true hz.2
      · cases e
    · cases e
  · obtain ⟨e1, o1⟩ := hp.str
    subst e1
    cases hq.int
    split at e
    · split at e
      · rename_i x n _ hz
        cases e
        simp only [Bool.and_eq_true, decide_eq_true_eq] at hz
        have hz2 : x.length * n.toNat ≤ line := Nat.le_of_ble_eq_true hz.2
        obtain ⟨t, rfl⟩ := rx
        obtain ⟨t', rfl⟩ := ry
        refine SB.mul ⟨?_, fun h1 h2 => ?_, fun h1 h2 => ?_⟩ fun u k' => ⟨.str _, H, I.tok _, ⟨u, rfl⟩, ?_⟩
        · rw [Bool.or_eq_false_iff, decide_eq_false_iff_not, decide_eq_false_iff_not]
          omega
        · have hn : 0 < n := by omega
          rw [str_len]
          have h3 : ((x.length : Int)) * n ≤ 2 ^ 63 - 1 := by
            have e3 : ((x.length * n.toNat : Nat) : Int) = (x.length : Int) * n := by
              rw [Int.natCast_mul, Int.toNat_of_nonneg (by omega)]
            rw [← e3]
            have : line = 16777216 := rfl
            omega
          have := (Int.le_ediv_iff_mul_le hn).mpr h3
          omega
        · unfold Builtin.Str.tooLong
          rw [str_len]
          exact decide_eq_false (by rw [← line_eq]; omega)
        · rw [mul_rep]
          exact ZR.val (.str _ (o1.rep hz2)) k
      · cases e
    · cases e
  · cases e

/-! ### comparisons -/
mutual
def toD : PV → PyData
  | .non => .none
  | .bl b => .bool b
  | .int i => .int i
  | .str x => .str ⟨x.toArray⟩
  | .tup xs => .tuple (toDs xs)
  | .lst xs => .list (toDs xs)
  | .dic _ _ _ => .none
  | .scr _ => .none
  | .cel _ => .none
def toDs : List PV → List PyData
  | [] => []
  | x :: xs => toD x :: toDs xs
end
mutual
theorem VR.dp {K : Fg} {M : Ml} {H : Hp} : ∀ {x : PV} {v : V}, VR K M H x v → dep x < 1000 → Dp K H v (toD x)
  | _, _, .non, _ => .non
  | _, _, .bl b, _ => .bl b
  | _, _, .int i, _ => .int i
  | _, _, .str x h, _ => .str _
  | _, _, .tup h r, d => .tup h (VRs.dp r (Nat.lt_of_succ_lt d))
  | _, _, .lst h n r, d => .lst (SqL.of h) (VRs.dp r (Nat.lt_of_succ_lt d))
  | _, _, .dicK _ _ _, d => absurd d (Nat.lt_irrefl _)
  | _, _, .dicT _ _ _ _ _, d => absurd d (Nat.lt_irrefl _)
  | _, _, .scr _ _, d => absurd d (Nat.lt_irrefl _)
  | _, _, .scrK _ _, d => absurd d (Nat.lt_irrefl _)
  | _, _, .cel _, d => absurd d (Nat.lt_irrefl _)
theorem VRs.dp {K : Fg} {M : Ml} {H : Hp} : ∀ {x : List PV} {v : List V}, VRs K M H x v → deps x < 1000 → DpAll K H v (toDs x)
  | _, _, .nil, _ => .nil
  | _, _, .cons h r, d => .cons (VR.dp h (Nat.lt_of_le_of_lt (Nat.le_max_left _ _) d)) (VRs.dp r (Nat.lt_of_le_of_lt (Nat.le_max_right _ _) d))
end
theorem VT.dp {K : Fg} {M : Ml} {H : Hp} {x : PV} {v : V} (h : VT K M H x v) (d : dep x < 1000) : Dp K H v (toD x) := by
  cases h with
  | of h => exact h.dp d
  | lst h r => exact .lst (SqL.of h) (r.dp (Nat.lt_of_succ_lt d))
  | dicK _ _ => exact absurd d (Nat.lt_irrefl _)
  | dicT _ _ _ _ => exact absurd d (Nat.lt_irrefl _)
mutual
theorem VR.lay {K : Fg} {M : Ml} {H : Hp} : ∀ {x : PV} {v : V}, VR K M H x v → dep x < 1000 → (toD x).canLay0 = true ∧ (toD x).depth = dep x
  | _, _, .non, _ => ⟨by simp [toD, PyData.canLay0], by simp [toD, PyData.depth, dep]⟩
  | _, _, .bl b, _ => ⟨by simp [toD, PyData.canLay0], by simp [toD, PyData.depth, dep]⟩
  | _, _, .int i, _ => ⟨by simp [toD, PyData.canLay0], by simp [toD, PyData.depth, dep]⟩
  | _, _, .str x h, _ => ⟨by
      have : PyData.strOk ⟨x.toArray⟩ = true := by
        unfold PyData.strOk
        rw [Array.all_eq_true']
        intro c hc
        have := h.1 c (by simpa using hc)
        simpa using this
      simpa [toD, PyData.canLay0] using this, by simp [toD, PyData.depth, dep]⟩
  | .tup vs, _, .tup h r, d => by
    have q := VRs.lay r (Nat.lt_of_succ_lt d)
    exact ⟨by simpa [toD, PyData.canLay0] using q.1, by simp [toD, PyData.depth, dep, q.2]⟩
  | .lst vs, _, .lst h n r, d => by
    have q := VRs.lay r (Nat.lt_of_succ_lt d)
    exact ⟨by simpa [toD, PyData.canLay0] using q.1, by simp [toD, PyData.depth, dep, q.2]⟩
  | _, _, .dicK _ _ _, d => absurd d (Nat.lt_irrefl _)
  | _, _, .dicT _ _ _ _ _, d => absurd d (Nat.lt_irrefl _)
  | _, _, .scr _ _, d => absurd d (Nat.lt_irrefl _)
  | _, _, .scrK _ _, d => absurd d (Nat.lt_irrefl _)
  | _, _, .cel _, d => absurd d (Nat.lt_irrefl _)
theorem VRs.lay {K : Fg} {M : Ml} {H : Hp} : ∀ {x : List PV} {v : List V}, VRs K M H x v → deps x < 1000 → PyData.canLayAll0 (toDs x) = true ∧ PyData.depthAll (toDs x) = deps x
  | _, _, .nil, _ => ⟨by simp [toDs, PyData.canLayAll0], by simp [toDs, PyData.depthAll, deps]⟩
  | x :: xs, _, .cons h r, d => by
    have q := VR.lay h (Nat.lt_of_le_of_lt (Nat.le_max_left _ _) d)
    have q2 := VRs.lay r (Nat.lt_of_le_of_lt (Nat.le_max_right _ _) d)
    exact ⟨by simp [toDs, PyData.canLayAll0, q.1, q2.1], by simp [toDs, PyData.depthAll, deps, q.2, q2.2]⟩
end
theorem VT.lay {K : Fg} {M : Ml} {H : Hp} {x : PV} {v : V} (h : VT K M H x v) (d : dep x < 1000) : (toD x).canLay0 = true ∧ (toD x).depth = dep x := by
  cases h with
  | of h => exact h.lay d
  | lst h r =>
    have q := VRs.lay r (Nat.lt_of_succ_lt d)
    exact ⟨by simpa [toD, PyData.canLay0] using q.1, by simp [toD, PyData.depth, dep, q.2]⟩
  | dicK _ _ => exact absurd d (Nat.lt_irrefl _)
  | dicT _ _ _ _ => exact absurd d (Nat.lt_irrefl _)
theorem toArray_beq (x y : List Nat) : ((⟨x.toArray⟩ : Str) == ⟨y.toArray⟩) = (x == y) := by
  by_cases e : x = y
  · subst e
    simp
  · have h1 : (x == y) = false := by simpa using e
    rw [h1]
    apply beq_eq_false_iff_ne.mpr
    intro z
    apply e
    have : x.toArray = y.toArray := by injection z
    simpa using congrArg Array.toList this
mutual
theorem eqv_eq : ∀ (x y : PV), dep x < 1000 → dep y < 1000 → PyData.eqv (toD x) (toD y) = eqP x y
  | .non, y, _, hy => by cases y <;> first | (exfalso; exact absurd hy (Nat.lt_irrefl _)) | simp [toD, PyData.eqv, eqP]
  | .bl a, y, _, hy => by cases y <;> first | (exfalso; exact absurd hy (Nat.lt_irrefl _)) | simp [toD, PyData.eqv, eqP]
  | .int a, y, _, hy => by cases y <;> first | (exfalso; exact absurd hy (Nat.lt_irrefl _)) | simp [toD, PyData.eqv, eqP, Bool.beq_eq_decide_eq]
  | .str a, y, _, hy => by cases y <;> first | (exfalso; exact absurd hy (Nat.lt_irrefl _)) | simp [toD, PyData.eqv, eqP, toArray_beq]
  | .tup a, y, hx, hy => by
    cases y with
    | tup b =>
      simp only [toD, PyData.eqv, eqP]
      exact eqvs_eq a b (Nat.lt_of_succ_lt hx) (Nat.lt_of_succ_lt hy)
    | dic _ _ _ => exact absurd hy (Nat.lt_irrefl _)
    | scr _ => exact absurd hy (Nat.lt_irrefl _)
    | cel _ => exact absurd hy (Nat.lt_irrefl _)
    | _ => simp [toD, PyData.eqv, eqP]
  | .lst a, y, hx, hy => by
    cases y with
    | lst b =>
      simp only [toD, PyData.eqv, eqP]
      exact eqvs_eq a b (Nat.lt_of_succ_lt hx) (Nat.lt_of_succ_lt hy)
    | dic _ _ _ => exact absurd hy (Nat.lt_irrefl _)
    | scr _ => exact absurd hy (Nat.lt_irrefl _)
    | cel _ => exact absurd hy (Nat.lt_irrefl _)
    | _ => simp [toD, PyData.eqv, eqP]
  | .dic _ _ _, _, hx, _ => absurd hx (Nat.lt_irrefl _)
  | .scr _, _, hx, _ => absurd hx (Nat.lt_irrefl _)
  | .cel _, _, hx, _ => absurd hx (Nat.lt_irrefl _)
theorem eqvs_eq : ∀ (x y : List PV), deps x < 1000 → deps y < 1000 → PyData.eqvAll (toDs x) (toDs y) = eqPs x y
  | [], [], _, _ => by simp [toDs, PyData.eqvAll, eqPs]
  | [], _ :: _, _, _ => by simp [toDs, PyData.eqvAll, eqPs]
  | _ :: _, [], _, _ => by simp [toDs, PyData.eqvAll, eqPs]
  | x :: xs, y :: ys, hx, hy => by
    simp only [toDs, PyData.eqvAll, eqPs]
    rw [eqv_eq x y (Nat.lt_of_le_of_lt (Nat.le_max_left _ _) hx) (Nat.lt_of_le_of_lt (Nat.le_max_left _ _) hy), eqvs_eq xs ys (Nat.lt_of_le_of_lt (Nat.le_max_right _ _) hx) (Nat.lt_of_le_of_lt (Nat.le_max_right _ _) hy)]
end
end
end Py

set_option Elab.async false
set_option linter.all false
set_option maxRecDepth 100000
set_option maxHeartbeats 4000000
namespace Py
open PySem L2
/-! ### keys -/
def keyOf : PV → Key
  | .int i => .inl i
  | .str x => .inr ⟨x.toArray⟩
  | _ => .inl 0
theorem keyOf_pv {x : PV} (h : isKey x = true) : keyPV (keyOf x) = x := by
  cases x <;> first | cases h | skip
  · rfl
  · simp [keyOf, keyPV]
theorem keyEq (a b : Key) : eqP (keyPV a) (keyPV b) = decide (a = b) := by
  cases a with
  | inl i => cases b with
    | inl j => simp [keyPV, eqP]
    | inr y => simp [keyPV, eqP]
  | inr x => cases b with
    | inl j => simp [keyPV, eqP]
    | inr y =>
      rcases x with ⟨x⟩
      rcases y with ⟨y⟩
      simp only [keyPV, eqP]
      by_cases h : x = y
      · subst h; simp
      · have h2 : ¬ x.toList = y.toList := fun z => h (by simpa using z)
        rw [beq_eq_false_iff_ne.mpr h2]
        simp [h]
theorem key_v {K : Fg} {M : Ml} {H : Hp} {x : PV} {v : V} (h : isKey x = true) (r : VR K M H x v) : v = kV (keyOf x) := by
  cases x <;> first | cases h | skip
  · cases r; rfl
  · cases r; rfl
section
variable {K : Fg} {M : Ml} {H : Hp}
theorem any_key (k : Key) : ∀ kvs : List (Key × V), (kvs.map fun kv => keyPV kv.1).any (fun z => eqP z (keyPV k)) = kvs.any fun kv => decide (kv.1 = k)
  | [] => rfl
  | kv :: r => by rw [List.map_cons, List.any_cons, List.any_cons, keyEq, any_key k r]
theorem dmap_ok {k : Key} {p : PV} {v : V} (hv : VR K M H p v) : ∀ (kvs : List (Key × V)) (vs : List PV), VRs K M H vs (kvs.map Prod.snd) →
    VRs K M H (dmap (kvs.map fun kv => keyPV kv.1) vs (keyPV k) p) ((kvs.map fun kv => if kv.1 = k then (kv.1, v) else kv).map Prod.snd)
  | [], _, .nil => .nil
  | kv :: r, _, .cons h t => by
    simp only [List.map_cons, dmap, keyEq]
    by_cases e : kv.1 = k
    · rw [if_pos (by simpa using e), if_pos e]
      exact .cons hv (dmap_ok hv r _ t)
    · rw [if_neg (by simpa using e), if_neg e]
      exact .cons h (dmap_ok hv r _ t)
theorem map_keys (k : Key) (v : V) (kvs : List (Key × V)) : (kvs.map fun kv => if kv.1 = k then (kv.1, v) else kv).map (fun kv => keyPV kv.1) = kvs.map fun kv => keyPV kv.1 := by
  rw [List.map_map]
  apply List.map_congr_left
  intro kv _
  simp only [Function.comp]
  split <;> rfl
theorem dput_ok {k : Key} {p : PV} {v : V} (hv : VR K M H p v) (kvs : List (Key × V)) (vs : List PV) (r : VRs K M H vs (kvs.map Prod.snd)) :
    (dput (kvs.map fun kv => keyPV kv.1) vs (keyPV k) p).1 = (putK kvs k v).map (fun kv => keyPV kv.1) ∧ VRs K M H (dput (kvs.map fun kv => keyPV kv.1) vs (keyPV k) p).2 ((putK kvs k v).map Prod.snd) := by
  unfold dput putK
  rw [any_key]
  by_cases h : (kvs.any fun kv => decide (kv.1 = k)) = true
  · rw [if_pos h, if_pos h]
    exact ⟨(map_keys k v kvs).symm, dmap_ok hv kvs vs r⟩
  · rw [if_neg h, if_neg h]
    refine ⟨by simp, ?_⟩
    rw [List.map_append]
    exact r.append (.one hv)
theorem dget_ok {k : Key} {y : PV} : ∀ (kvs : List (Key × V)) (vs : List PV), VRs K M H vs (kvs.map Prod.snd) → dget (kvs.map fun kv => keyPV kv.1) vs (keyPV k) = some y → ∃ v, valV kvs k = some v ∧ VR K M H y v
  | [], _, _, e => by simp [dget] at e
  | kv :: r, _, .cons h t, e => by
    simp only [List.map_cons, dget, keyEq] at e
    by_cases q : kv.1 = k
    · rw [if_pos (by simpa using q)] at e
      cases e
      exact ⟨_, valV_pos q, h⟩
    · rw [if_neg (by simpa using q)] at e
      obtain ⟨v, h1, h2⟩ := dget_ok r _ t e
      exact ⟨v, by rw [valV_neg q]; exact h1, h2⟩
theorem dget_no {k : Key} : ∀ (kvs : List (Key × V)) (vs : List PV), VRs K M H vs (kvs.map Prod.snd) → dget (kvs.map fun kv => keyPV kv.1) vs (keyPV k) = none → valV kvs k = none
  | [], _, _, _ => rfl
  | kv :: r, _, .cons h t, e => by
    simp only [List.map_cons, dget, keyEq] at e
    by_cases q : kv.1 = k
    · rw [if_pos (by simpa using q)] at e
      cases e
    · rw [if_neg (by simpa using q)] at e
      rw [valV_neg q]
      exact dget_no r _ t e
end
theorem CV.dic' {K : Fg} {M : Ml} {H : Hp} {p : Addr} {ks vs : List PV} (h : CV K M H p (.dic false ks vs)) : ∃ kvs : List (Key × V), H p = some (.dK kvs) ∧ ks = kvs.map (fun kv => keyPV kv.1) ∧ VRs K M H vs (kvs.map Prod.snd) := by
  cases h with | dicK h r => exact ⟨_, h, rfl, r⟩
/-! ### keys of tuples: trees, keys, objects -/
mutual
theorem eqP_nk : ∀ a b : PV, isNK a = true → isNK b = true → eqP a b = decide (nk a = nk b)
  | .int i, .int j, _, _ => by simp [eqP, nk]
  | .int i, .non, _, _ => by simp [eqP, nk]
  | .int i, .tup ys, _, _ => by simp [eqP, nk]
  | .non, .int i, _, _ => by simp [eqP, nk]
  | .non, .non, _, _ => by simp [eqP, nk]
  | .non, .tup ys, _, _ => by simp [eqP, nk]
  | .tup xs, .int i, _, _ => by simp [eqP, nk]
  | .tup xs, .non, _, _ => by simp [eqP, nk]
  | .tup xs, .tup ys, h1, h2 => by
    have := eqPs_nk xs ys h1 h2
    simp [eqP, nk, this]
  | .bl _, _, h, _ => by cases h
  | .str _, _, h, _ => by cases h
  | .lst _, _, h, _ => by cases h
  | .dic _ _ _, _, h, _ => by cases h
  | .scr _, _, h, _ => by cases h
  | .cel _, _, h, _ => by cases h
  | .int _, .bl _, _, h => by cases h
  | .int _, .str _, _, h => by cases h
  | .int _, .lst _, _, h => by cases h
  | .int _, .dic _ _ _, _, h => by cases h
  | .int _, .scr _, _, h => by cases h
  | .int _, .cel _, _, h => by cases h
  | .non, .bl _, _, h => by cases h
  | .non, .str _, _, h => by cases h
  | .non, .lst _, _, h => by cases h
  | .non, .dic _ _ _, _, h => by cases h
  | .non, .scr _, _, h => by cases h
  | .non, .cel _, _, h => by cases h
  | .tup _, .bl _, _, h => by cases h
  | .tup _, .str _, _, h => by cases h
  | .tup _, .lst _, _, h => by cases h
  | .tup _, .dic _ _ _, _, h => by cases h
  | .tup _, .scr _, _, h => by cases h
  | .tup _, .cel _, _, h => by cases h
theorem eqPs_nk : ∀ a b : List PV, isNKs a = true → isNKs b = true → eqPs a b = decide (nks a = nks b)
  | [], [], _, _ => by simp [eqPs, nks]
  | [], _ :: _, _, _ => by simp [eqPs, nks]
  | _ :: _, [], _, _ => by simp [eqPs, nks]
  | x :: xs, y :: ys, h1, h2 => by
    have h1 : (isNK x && isNKs xs) = true := h1
    have h2 : (isNK y && isNKs ys) = true := h2
    rw [Bool.and_eq_true] at h1 h2
    simp [eqPs, nks, eqP_nk x y h1.1 h2.1, eqPs_nk xs ys h1.2 h2.2, Bool.decide_and]
end
mutual
theorem depth_nk : ∀ x : PV, isNK x = true → (nk x).depth = dep x
  | .int _, _ => by simp [nk, NestedKey.depth, dep]
  | .non, _ => by simp [nk, NestedKey.depth, dep]
  | .tup xs, h => by
    have := depths_nk xs h
    simp [nk, NestedKey.depth, dep, this]
  | .bl _, h => by cases h
  | .str _, h => by cases h
  | .lst _, h => by cases h
  | .dic _ _ _, h => by cases h
  | .scr _, h => by cases h
  | .cel _, h => by cases h
theorem depths_nk : ∀ xs : List PV, isNKs xs = true → NestedKey.depthAll (nks xs) = deps xs
  | [], _ => by simp [nks, NestedKey.depthAll, deps]
  | x :: xs, h => by
    have h : (isNK x && isNKs xs) = true := h
    rw [Bool.and_eq_true] at h
    simp [nks, NestedKey.depthAll, deps, depth_nk x h.1, depths_nk xs h.2]
end
mutual
theorem plain_nk : ∀ x : PV, isNK x = true → plainK (nk x) = true
  | .int _, _ => by simp [nk, plainK]
  | .non, _ => by simp [nk, plainK]
  | .tup xs, h => by
    have := plains_nk xs h
    simp [nk, plainK, this]
  | .bl _, h => by cases h
  | .str _, h => by cases h
  | .lst _, h => by cases h
  | .dic _ _ _, h => by cases h
  | .scr _, h => by cases h
  | .cel _, h => by cases h
theorem plains_nk : ∀ xs : List PV, isNKs xs = true → plainKs (nks xs) = true
  | [], _ => by simp [nks, plainKs]
  | x :: xs, h => by
    have h : (isNK x && isNKs xs) = true := h
    rw [Bool.and_eq_true] at h
    simp [nks, plainKs, plain_nk x h.1, plains_nk xs h.2]
end
section
variable {X : Cx} {pins : List (Addr × Obj)} {σ : St} {H : Hp} {s : Shared} {M : Ml}
mutual
theorem nested_at (I : Inv X pins σ H s) : ∀ {x : PV} {v : V} {u : Value}, VR X.K M H x v → isNK x = true → RelV v u → NestedIs s.heap (nk x) u
  | .int i, _, u, .int _, _, r => by
    obtain ⟨t, rfl⟩ := r
    exact .int i t
  | .non, _, u, .non, _, r => by
    cases (show u = Value.none from r)
    exact .none
  | .tup vs, _, u, .tup (p := p) (xs := ys) h q, k, r => by
    cases (show u = Value.ref p from r)
    obtain ⟨its, r1, ⟨o, h1, h2, n, h3⟩, _⟩ := I.tuple h
    exact .tup h1 h2 h3 (nesteds_at I q k r1)
theorem nesteds_at (I : Inv X pins σ H s) : ∀ {xs : List PV} {vs : List V} {us : List Value}, VRs X.K M H xs vs → isNKs xs = true → Vals vs us → NestedAll s.heap (nks xs) us
  | _, _, _, .nil, _, .nil => .nil
  | x :: xs, _, _, .cons h t, k, .cons a b => by
    have k : (isNK x && isNKs xs) = true := k
    rw [Bool.and_eq_true] at k
    exact .cons (nested_at I h k.1 a) (nesteds_at I t k.2 b)
end
/-- a key at hand -/
theorem key_at (I : Inv X pins σ H s) {x : PV} {b : Addr} (h : VR X.K M H x (.ref b)) (k : isKeyT x = true) : NestedIs s.heap (nk x) (.ref b) ∧ (nk x).depth ≤ 8 := by
  obtain ⟨k1, k2⟩ := isKeyT_nk k
  exact ⟨nested_at I h k1 rfl, by rw [depth_nk x k1]; exact k2⟩
theorem keys_at (I : Inv X pins σ H s) : ∀ {ks : List PV} {xs : RX}, KeyR ks xs → VRs X.K M H ks (xs.map fun x => V.ref x.2.1) → KeysAt s.heap xs
  | [], [], _, _ => fun x hx => nomatch hx
  | [], _ :: _, k, _ => by cases k.2
  | _ :: _, [], k, _ => by cases k.2
  | c :: ks, y :: xs, ⟨k1, k2⟩, r => by
    rw [List.all_cons, Bool.and_eq_true] at k1
    rw [List.map_cons, List.map_cons, List.cons.injEq] at k2
    rw [List.map_cons] at r
    cases r with
    | cons h t =>
      intro x hx
      rcases List.mem_cons.mp hx with rfl | hx
      · rw [k2.1]
        exact key_at I h k1.1
      · exact keys_at I ⟨k1.2, k2.2⟩ t x hx
end
section
variable {K : Fg} {M : Ml} {H : Hp}
theorem keyT_ref {x : PV} {v : V} (k : isKeyT x = true) (h : VR K M H x v) : ∃ b, v = .ref b := by
  cases x with
  | tup xs => cases h with | tup h r => exact ⟨_, rfl⟩
  | _ => cases k
theorem dgetT {kp : PV} (hk : isKeyT kp = true) : ∀ {ks vs : List PV} {xs : RX}, KeyR ks xs → VRs K M H vs (xs.map fun x => x.2.2) → match dget ks vs kp with
    | some y => ∃ v, valR xs (nk kp) = some v ∧ VR K M H y v
    | none => valR xs (nk kp) = none
  | [], _, [], _, .nil => rfl
  | [], _, _ :: _, k, _ => by cases k.2
  | _ :: _, _, [], k, _ => by cases k.2
  | c :: ks, _, y :: xs, ⟨k1, k2⟩, .cons h t => by
    rw [List.all_cons, Bool.and_eq_true] at k1
    rw [List.map_cons, List.map_cons, List.cons.injEq] at k2
    have e := eqP_nk c kp (isKeyT_nk k1.1).1 (isKeyT_nk hk).1
    have ih := dgetT hk (ks := ks) (xs := xs) ⟨k1.2, k2.2⟩ t
    unfold dget
    rw [e, ← k2.1]
    by_cases q : y.1 = nk kp
    · rw [if_pos (by simpa using q)]
      exact ⟨_, valR_pos q, h⟩
    · rw [if_neg (by simpa using q), valR_neg q]
      exact ih
theorem any_keyT {kp : PV} (hk : isKeyT kp = true) : ∀ {ks : List PV} {xs : RX}, KeyR ks xs → ks.any (fun z => eqP z kp) = (valR xs (nk kp)).isSome
  | [], [], _ => rfl
  | [], _ :: _, k => by cases k.2
  | _ :: _, [], k => by cases k.2
  | c :: ks, y :: xs, ⟨k1, k2⟩ => by
    rw [List.all_cons, Bool.and_eq_true] at k1
    rw [List.map_cons, List.map_cons, List.cons.injEq] at k2
    have ih := any_keyT hk (ks := ks) (xs := xs) ⟨k1.2, k2.2⟩
    rw [List.any_cons, eqP_nk c kp (isKeyT_nk k1.1).1 (isKeyT_nk hk).1, ← k2.1, ih]
    by_cases q : y.1 = nk kp
    · rw [valR_pos q, decide_eq_true q]; rfl
    · rw [valR_neg q, decide_eq_false q]; rfl
theorem dmapT {kp p : PV} {v : V} (hk : isKeyT kp = true) (hv : VR K M H p v) : ∀ {ks vs : List PV} {xs : RX}, KeyR ks xs → VRs K M H vs (xs.map fun x => x.2.2) →
    VRs K M H (dmap ks vs kp p) ((xs.map fun x => if x.1 = nk kp then (x.1, x.2.1, v) else x).map fun x => x.2.2)
  | [], _, [], _, .nil => .nil
  | [], _, _ :: _, k, _ => by cases k.2
  | _ :: _, _, [], k, _ => by cases k.2
  | c :: ks, _, y :: xs, ⟨k1, k2⟩, .cons h t => by
    rw [List.all_cons, Bool.and_eq_true] at k1
    rw [List.map_cons, List.map_cons, List.cons.injEq] at k2
    have e := eqP_nk c kp (isKeyT_nk k1.1).1 (isKeyT_nk hk).1
    have ih := dmapT hk hv (ks := ks) (xs := xs) ⟨k1.2, k2.2⟩ t
    unfold dmap
    rw [e, ← k2.1]
    by_cases q : y.1 = nk kp
    · rw [if_pos (by simpa using q), List.map_cons, if_pos q]
      exact .cons hv ih
    · rw [if_neg (by simpa using q), List.map_cons, if_neg q]
      exact .cons h ih
theorem dputT {kp p : PV} {v : V} {b : Addr} (hk : isKeyT kp = true) (hb : VR K M H kp (.ref b)) (hv : VR K M H p v) {ks vs : List PV} {xs : RX} (k : KeyR ks xs) (a : VRs K M H ks (xs.map fun x => V.ref x.2.1)) (r : VRs K M H vs (xs.map fun x => x.2.2)) :
    KeyR (dput ks vs kp p).1 (putR xs (nk kp) b v) ∧ VRs K M H (dput ks vs kp p).1 ((putR xs (nk kp) b v).map fun x => V.ref x.2.1) ∧ VRs K M H (dput ks vs kp p).2 ((putR xs (nk kp) b v).map fun x => x.2.2) := by
  have e := any_keyT hk k
  unfold dput putR
  rw [e]
  by_cases h : (valR xs (nk kp)).isSome = true
  · rw [if_pos h, if_pos h]
    have m1 : (xs.map fun x => if x.1 = nk kp then (x.1, x.2.1, v) else x).map (·.1) = xs.map (·.1) := by
      rw [List.map_map]
      refine List.map_congr_left fun x _ => ?_
      show (if x.1 = nk kp then (x.1, x.2.1, v) else x).1 = x.1
      split <;> rfl
    have m2 : (xs.map fun x => if x.1 = nk kp then (x.1, x.2.1, v) else x).map (fun x => V.ref x.2.1) = xs.map fun x => V.ref x.2.1 := by
      rw [List.map_map]
      refine List.map_congr_left fun x _ => ?_
      show V.ref (if x.1 = nk kp then (x.1, x.2.1, v) else x).2.1 = V.ref x.2.1
      split <;> rfl
    exact ⟨⟨k.1, by rw [m1]; exact k.2⟩, by rw [m2]; exact a, dmapT hk hv k r⟩
  · rw [if_neg h, if_neg h]
    refine ⟨⟨?_, ?_⟩, ?_, ?_⟩
    · rw [List.all_append, k.1, Bool.true_and, List.all_cons, hk]; rfl
    · rw [List.map_append, List.map_append, k.2]; rfl
    · rw [List.map_append]; exact a.append (.one hb)
    · rw [List.map_append]; exact r.append (.one hv)
end
section
variable {K : Fg} {M : Ml} {H : Hp}
theorem dget_has {k : Key} (kvs : List (Key × V)) (vs : List PV) (r : VRs K M H vs (kvs.map Prod.snd)) : (dget (kvs.map fun kv => keyPV kv.1) vs (keyPV k)).isSome = (valV kvs k).isSome := by
  cases q : dget (kvs.map fun kv => keyPV kv.1) vs (keyPV k) with
  | none => rw [dget_no kvs vs r q]; rfl
  | some y =>
    obtain ⟨v, h1, _⟩ := dget_ok kvs vs r q
    rw [h1]
    rfl
theorem dgetT_has {kp : PV} (hk : isKeyT kp = true) {ks vs : List PV} {xs : RX} (kr : KeyR ks xs) (r : VRs K M H vs (xs.map fun x => x.2.2)) : (dget ks vs kp).isSome = (valR xs (nk kp)).isSome := by
  have := dgetT hk kr r
  cases q : dget ks vs kp with
  | none => rw [q] at this; rw [this]; rfl
  | some y =>
    rw [q] at this
    obtain ⟨v, h1, _⟩ := this
    rw [h1]
    rfl
end
/-- a key in a dict -/
def rInD (K : Fg) (neg : Bool) : R2 := fun x y H Q => ∃ (M : Ml) (t : Bool) (ks vs : List PV) (p : PV), VT K M H (.dic t ks vs) y ∧ VR K M H p x ∧ keyOk t p = true ∧ Q (.bl (if neg then !(dget ks vs p).isSome else (dget ks vs p).isSome)) H
section
variable {X : Cx}
theorem op_in_dict (hu : X.A.units + 64 < cLine) : OpR X (compareOp .In) (rInD X.K false) := by
  intro pins s σ H x y v u Q I rx ry ⟨M, t, ks, vs, p, hd, hp, hk, q⟩
  obtain ⟨a, e0, hd2⟩ := hd.dic'
  clear hd
  subst e0
  cases ry
  rcases hd2 with ⟨kvs, rfl, h1, rfl, r⟩ | ⟨xs, rfl, h1, kr, ka, r⟩
  · have hk : isKey p = true := hk
    have ev := key_v hk hp
    subst ev
    have e := dget_has (k := keyOf p) kvs vs r
    rw [keyOf_pv hk] at e
    rw [if_neg Bool.false_ne_true, e] at q
    exact d_in (by omega) I (.k h1) rx fun s' I' => ⟨.bl _, H, I', rfl, q⟩
  · have hk : isKeyT p = true := hk
    obtain ⟨b, rfl⟩ := keyT_ref hk hp
    cases rx
    rw [if_neg Bool.false_ne_true, dgetT_has hk kr r] at q
    exact raw_in hu I (.inl h1) (keys_at I kr ka) (key_at I hp hk) fun s' I' => ⟨.bl _, H, I', rfl, q⟩
theorem op_notIn_dict (hu : X.A.units + 64 < cLine) : OpR X (compareOp .NotIn) (rInD X.K true) := by
  intro pins s σ H x y v u Q I rx ry ⟨M, t, ks, vs, p, hd, hp, hk, q⟩
  obtain ⟨a, e0, hd2⟩ := hd.dic'
  clear hd
  subst e0
  cases ry
  rcases hd2 with ⟨kvs, rfl, h1, rfl, r⟩ | ⟨xs, rfl, h1, kr, ka, r⟩
  · have hk : isKey p = true := hk
    have ev := key_v hk hp
    subst ev
    have e := dget_has (k := keyOf p) kvs vs r
    rw [keyOf_pv hk] at e
    rw [if_pos rfl, e] at q
    exact d_notIn (by omega) I (.k h1) rx fun s' I' => ⟨.bl _, H, I', rfl, q⟩
  · have hk : isKeyT p = true := hk
    obtain ⟨b, rfl⟩ := keyT_ref hk hp
    cases rx
    rw [if_pos rfl, dgetT_has hk kr r] at q
    exact raw_notIn hu I (.inl h1) (keys_at I kr ka) (key_at I hp hk) fun s' I' => ⟨.bl _, H, I', rfl, q⟩
end
end Py

set_option Elab.async false
set_option linter.all false
set_option maxRecDepth 100000
set_option maxHeartbeats 4000000
namespace Py
open PySem PySem.Spec PyProof.Rows L2
def rC (K : Fg) (f : PV → PV → Option Bool) : R2 := fun x y H Q => ∃ M p q b, MutOk M H ∧ VT K M H p x ∧ VT K M H q y ∧ f p q = some b ∧ Q (.bl b) H
def cOf : COp → CmpOp
  | .lt => .Lt | .le => .LtE | .gt => .Gt | .ge => .GtE | .eq => .Eq | .ne => .NotEq | .is => .Is | .isnot => .IsNot | .inn => .In | .notin => .NotIn
section
variable {X : Cx}
theorem op_isB : OpR X (compareOp .Is) (fun x y H Q => ∃ a b, x = .bl a ∧ y = .bl b ∧ Q (.bl (decide (a = b))) H) := by
  intro pins s σ H x y v u Q I rx ry h
  obtain ⟨a, b, rfl, rfl, q⟩ := h
  cases rx
  cases ry
  cases a <;> cases b <;> exact wpAny_pure (fin_bl I q rfl)
theorem op_isnotB : OpR X (compareOp .IsNot) (fun x y H Q => ∃ a b, x = .bl a ∧ y = .bl b ∧ Q (.bl (!decide (a = b))) H) := by
  intro pins s σ H x y v u Q I rx ry h
  obtain ⟨a, b, rfl, rfl, q⟩ := h
  cases rx
  cases ry
  cases a <;> cases b <;> exact wpAny_pure (fin_bl I q rfl)
end
section
variable {X : Cx} {K : Fg} {M : Ml} {H : Hp}
theorem flat_vr {x : PV} {v : V} (h : VR K M H x v) (f : flat x = true) : flatV v = true := by
  cases h <;> first | rfl | cases f
theorem flat_eq {x y : PV} {v u : V} (h : VR K M H x v) (g : VR K M H y u) (f : flat x = true) (f2 : flat y = true) : eqV v u = eqP x y := by
  cases h <;> cases g <;> first | rfl | cases f | cases f2 | skip
  all_goals first | (simp only [eqV, eqP, Bool.beq_eq_decide_eq]; done) | (simp only [eqV, eqP, toArray_beq]; done) | (simp [eqV, eqP, Bool.beq_eq_decide_eq]; done)
theorem flats_vr : ∀ {x : List PV} {v : List V}, VRs K M H x v → x.all flat = true → v.all flatV = true
  | _, _, .nil, _ => rfl
  | _, _, .cons h r, f => by
    rw [List.all_cons, Bool.and_eq_true] at f
    rw [List.all_cons, flat_vr h f.1, flats_vr r f.2]
    rfl
theorem flats_any {a : PV} {b : V} (ha : VR K M H a b) (fa : flat a = true) : ∀ {x : List PV} {v : List V}, VRs K M H x v → x.all flat = true → inV b v = x.any fun y => eqP y a
  | _, _, .nil, _ => rfl
  | _, _, .cons h r, f => by
    rw [List.all_cons, Bool.and_eq_true] at f
    show ((eqV _ b) || inV b _) = _
    rw [flats_any ha fa r f.2, flat_eq h ha f.1 fa]
    rfl
theorem VT.flat {x : PV} {v : V} (h : VT K M H x v) (f : flat x = true) : VR K M H x v := by
  cases h with
  | of h => exact h
  | lst _ _ => cases f
  | dicK _ _ => cases f
  | dicT _ _ _ _ => cases f
theorem keyOk_vr {t : Bool} {x : PV} {v : V} (c : keyOk t x = true) (h : VT K M H x v) : VR K M H x v := by
  cases h with
  | of h => exact h
  | lst _ _ => cases t <;> cases c
  | dicK _ _ => cases t <;> cases c
  | dicT _ _ _ _ => cases t <;> cases c
theorem dep_lt {x : PV} (h : Nat.ble (dep x) 60 = true) : dep x < 1000 := by
  have := Nat.le_of_ble_eq_true h
  omega
theorem VT.shaped {x : PV} {v : V} (h : VT K M H x v) (d : Nat.ble (dep x) 60 = true) : SeqAt.shaped (toD x) = true := by
  have q := h.lay (dep_lt d)
  have := Nat.le_of_ble_eq_true d
  unfold SeqAt.shaped
  rw [q.1, q.2, Bool.true_and]
  exact decide_eq_true (by omega)
theorem op_cmp (hu : X.A.units + 64 < cLine) (op : COp) : OpR X (compareOp (cOf op)) (rC X.K (cmpop op)) := by
  intro pins s σ H x y v u Q I rx ry h
  obtain ⟨M, p, q, b, mo, hp, hq, e, k⟩ := h
  have int : ∀ op', cmpI op' = cmpI op' := fun _ => rfl
  cases op with
  | eq =>
    simp only [cmpop] at e
    split at e
    · rename_i c
      cases e
      unfold eqOk at c
      rw [Bool.and_eq_true] at c
      refine op_eqD hu pins s σ H x y v u Q I rx ry ⟨toD p, toD q, hp.dp (dep_lt c.2), hq.dp (dep_lt c.1), hp.shaped c.2, hq.shaped c.1, ?_⟩
      rw [eqv_eq _ _ (dep_lt c.2) (dep_lt c.1)]
      exact k
    · cases e
  | ne =>
    simp only [cmpop] at e
    split at e
    · rename_i c
      cases e
      unfold eqOk at c
      rw [Bool.and_eq_true] at c
      refine op_neD hu pins s σ H x y v u Q I rx ry ⟨toD p, toD q, hp.dp (dep_lt c.2), hq.dp (dep_lt c.1), hp.shaped c.2, hq.shaped c.1, ?_⟩
      rw [eqv_eq _ _ (dep_lt c.2) (dep_lt c.1)]
      exact k
    · cases e
  | is =>
    cases q <;> try (simp only [cmpop] at e; cases e; done)
    rotate_left
    · cases p <;> try (simp only [cmpop] at e; cases e; done)
      cases e
      exact op_isB pins s σ H x y v u Q I rx ry ⟨_, _, hp.bl, hq.bl, k⟩
    cases hq.non
    refine op_isN pins s σ H x _ v u Q I rx ry ⟨rfl, ?_⟩
    cases p with
    | non =>
      cases hp.non
      cases e
      exact k
    | _ =>
      have e' : b = false := by simpa [cmpop] using e.symm
      subst e'
      have hx : x ≠ .non := by
        intro z
        subst z
        cases hp with | of h => cases h
      rw [decide_eq_false hx]
      exact k
  | isnot =>
    cases q <;> try (simp only [cmpop] at e; cases e; done)
    rotate_left
    · cases p <;> try (simp only [cmpop] at e; cases e; done)
      cases e
      exact op_isnotB pins s σ H x y v u Q I rx ry ⟨_, _, hp.bl, hq.bl, k⟩
    cases hq.non
    refine op_notN pins s σ H x _ v u Q I rx ry ⟨rfl, ?_⟩
    cases p with
    | non =>
      cases hp.non
      cases e
      exact k
    | _ =>
      have e' : b = true := by simpa [cmpop] using e.symm
      subst e'
      have hx : x ≠ .non := by
        intro z
        subst z
        cases hp with | of h => cases h
      rw [decide_eq_false hx]
      exact k
  | inn =>
    simp only [cmpop] at e
    split at e
    · cases e
      obtain ⟨e1, _⟩ := hp.str
      obtain ⟨e2, _⟩ := hq.str
      subst e1 e2
      refine op_in_sign pins s σ H _ _ v u Q I rx ry ⟨_, _, rfl, rfl, ?_⟩
      simpa using k
    · split at e
      · rename_i c
        cases e
        rw [Bool.and_eq_true] at c
        obtain ⟨a, xs, rfl, h1, r1⟩ := hq.tup
        have hx := hp.flat c.1
        refine op_in_seq pins s σ H _ _ v u Q I rx ry ⟨a, xs, rfl, .inr h1, flat_vr hx c.1, flats_vr r1 c.2, ?_⟩
        rw [if_neg Bool.false_ne_true, flats_any hx c.1 r1 c.2]
        exact k
      · cases e
    · split at e
      · rename_i c
        cases e
        rw [Bool.and_eq_true] at c
        obtain ⟨a, xs, rfl, h1, r1⟩ := hq.lst'
        have hx := hp.flat c.1
        refine op_in_seq pins s σ H _ _ v u Q I rx ry ⟨a, xs, rfl, .inl (SqL.of h1), flat_vr hx c.1, flats_vr r1 c.2, ?_⟩
        rw [if_neg Bool.false_ne_true, flats_any hx c.1 r1 c.2]
        exact k
      · cases e
    · split at e
      · rename_i c
        cases e
        exact op_in_dict hu pins s σ H x y v u Q I rx ry ⟨M, _, _, _, _, hq, keyOk_vr c hp, c, k⟩
      · cases e
    · cases e
  | notin =>
    simp only [cmpop] at e
    split at e
    · cases e
      obtain ⟨e1, _⟩ := hp.str
      obtain ⟨e2, _⟩ := hq.str
      subst e1 e2
      refine op_notIn_sign pins s σ H _ _ v u Q I rx ry ⟨_, _, rfl, rfl, ?_⟩
      simpa using k
    · split at e
      · rename_i c
        cases e
        rw [Bool.and_eq_true] at c
        obtain ⟨a, xs, rfl, h1, r1⟩ := hq.tup
        have hx := hp.flat c.1
        refine op_notIn_seq pins s σ H _ _ v u Q I rx ry ⟨a, xs, rfl, .inr h1, flat_vr hx c.1, flats_vr r1 c.2, ?_⟩
        rw [if_pos rfl, flats_any hx c.1 r1 c.2]
        exact k
      · cases e
    · split at e
      · rename_i c
        cases e
        rw [Bool.and_eq_true] at c
        obtain ⟨a, xs, rfl, h1, r1⟩ := hq.lst'
        have hx := hp.flat c.1
        refine op_notIn_seq pins s σ H _ _ v u Q I rx ry ⟨a, xs, rfl, .inl (SqL.of h1), flat_vr hx c.1, flats_vr r1 c.2, ?_⟩
        rw [if_pos rfl, flats_any hx c.1 r1 c.2]
        exact k
      · cases e
    · split at e
      · rename_i c
        cases e
        exact op_notIn_dict hu pins s σ H x y v u Q I rx ry ⟨M, _, _, _, _, hq, keyOk_vr c hp, c, k⟩
      · cases e
    · cases e
  | lt =>
    simp only [cmpop] at e
    split at e
    · cases hp.int
      cases hq.int
      cases e
      exact op_lt pins s σ H _ _ v u Q I rx ry ⟨_, _, rfl, rfl, k⟩
    · split at e
      · rename_i n1
        split at e
        · rename_i n2
          simp only [cmpTup, Option.some.injEq] at e
          subst e
          obtain ⟨a1, xs1, rfl, t1, r1⟩ := hp.tup
          obtain ⟨a2, xs2, rfl, t2, r2⟩ := hq.tup
          rw [r1.ints n1] at t1
          rw [r2.ints n2] at t2
          exact op_ltT (by omega) pins s σ H _ _ v u Q I rx ry ⟨a1, a2, _, _, rfl, rfl, t1, t2, k⟩
        · cases e
      · cases e
    · cases e
  | le =>
    simp only [cmpop] at e
    split at e
    · cases hp.int
      cases hq.int
      cases e
      exact op_le pins s σ H _ _ v u Q I rx ry ⟨_, _, rfl, rfl, k⟩
    · split at e
      · rename_i n1
        split at e
        · rename_i n2
          simp only [cmpTup, Option.some.injEq] at e
          subst e
          obtain ⟨a1, xs1, rfl, t1, r1⟩ := hp.tup
          obtain ⟨a2, xs2, rfl, t2, r2⟩ := hq.tup
          rw [r1.ints n1] at t1
          rw [r2.ints n2] at t2
          exact op_leTT (by omega) pins s σ H _ _ v u Q I rx ry ⟨a1, a2, _, _, rfl, rfl, t1, t2, k⟩
        · cases e
      · cases e
    · cases e
  | gt =>
    simp only [cmpop] at e
    split at e
    · cases hp.int
      cases hq.int
      cases e
      exact op_gt pins s σ H _ _ v u Q I rx ry ⟨_, _, rfl, rfl, k⟩
    · split at e
      · rename_i n1
        split at e
        · rename_i n2
          simp only [cmpTup, Option.some.injEq] at e
          subst e
          obtain ⟨a1, xs1, rfl, t1, r1⟩ := hp.tup
          obtain ⟨a2, xs2, rfl, t2, r2⟩ := hq.tup
          rw [r1.ints n1] at t1
          rw [r2.ints n2] at t2
          exact op_gtT (by omega) pins s σ H _ _ v u Q I rx ry ⟨a1, a2, _, _, rfl, rfl, t1, t2, k⟩
        · cases e
      · cases e
    · cases e
  | ge =>
    simp only [cmpop] at e
    split at e
    · cases hp.int
      cases hq.int
      cases e
      exact op_ge pins s σ H _ _ v u Q I rx ry ⟨_, _, rfl, rfl, k⟩
    · split at e
      · rename_i n1
        split at e
        · rename_i n2
          simp only [cmpTup, Option.some.injEq] at e
          subst e
          obtain ⟨a1, xs1, rfl, t1, r1⟩ := hp.tup
          obtain ⟨a2, xs2, rfl, t2, r2⟩ := hq.tup
          rw [r1.ints n1] at t1
          rw [r2.ints n2] at t2
          exact op_geT (by omega) pins s σ H _ _ v u Q I rx ry ⟨a1, a2, _, _, rfl, rfl, t1, t2, k⟩
        · cases e
      · cases e
    · cases e

/-! ### items -/
def rI2 (K : Fg) : R2 := fun x y H Q => ∃ M p q z, MutOk M H ∧ VT K M H p x ∧ VT K M H q y ∧ ixP p q = some z ∧ ∀ v, VR K M H z v → Q v H
theorem pyIx_eq (n : Nat) (i : Int) : pyIx n i = ixN n i := rfl
theorem okS.one {x : List Nat} (h : okS x) {c : Nat} (m : c ∈ x) : okS [c] := ⟨fun d hd => by
  have : d = c := by simpa using hd
  subst this
  exact h.1 d m, by show 1 ≤ 16777216; decide⟩
theorem ix_p : IxR X (rI2 X.K) := by
  intro value slice pins s σ H x y v u Q I rx ry h hs
  obtain ⟨M, p, q, z, mo, hp, hq, e, k⟩ := h
  unfold ixP at e
  split at e
  · obtain ⟨a, xs, rfl, h1, r1⟩ := hp.lst'
    cases hq.int
    cases e' : pyIx _ _ with
    | none => rw [e'] at e; cases e
    | some j =>
      rw [e'] at e
      obtain ⟨b, hb, rb⟩ := r1.get (i := j) (a := z) (by exact e)
      refine ix_list value slice pins s σ H _ _ v u Q I rx ry ⟨a, xs, _, b, rfl, rfl, SqL.of h1, ?_, k b rb⟩ hs
      unfold atI
      rw [← r1.length, ← pyIx_eq, e']
      exact hb
  · obtain ⟨a, xs, rfl, h1, r1⟩ := hp.tup
    cases hq.int
    cases e' : pyIx _ _ with
    | none => rw [e'] at e; cases e
    | some j =>
      rw [e'] at e
      obtain ⟨b, hb, rb⟩ := r1.get (i := j) (a := z) (by exact e)
      refine ix_tup value slice pins s σ H _ _ v u Q I rx ry ⟨a, xs, _, b, rfl, rfl, h1, ?_, k b rb⟩ hs
      unfold atI
      rw [← r1.length, ← pyIx_eq, e']
      exact hb
  · obtain ⟨a, xs, rfl, h1, r1⟩ := hp.scr'
    cases hq.int
    cases e' : pyIx _ _ with
    | none => rw [e'] at e; cases e
    | some j =>
      rw [e'] at e
      obtain ⟨b, hb, rb⟩ := r1.get (i := j) (a := z) (by exact e)
      refine ix_list value slice pins s σ H _ _ v u Q I rx ry ⟨a, xs, _, b, rfl, rfl, h1, ?_, k b rb⟩ hs
      unfold atI
      rw [← r1.length, ← pyIx_eq, e']
      exact hb
  · obtain ⟨e1, ok⟩ := hp.str
    subst e1
    cases hq.int
    cases e' : pyIx _ _ with
    | none => rw [e'] at e; cases e
    | some j =>
      rw [e'] at e
      rename_i zs i
      cases e2 : zs[j]? with
      | none =>
        have e : (zs[j]?).map _ = some z := e
        rw [e2] at e; cases e
      | some c =>
        have e : (zs[j]?).map _ = some z := e
        rw [e2] at e
        cases e
        refine ix_str value slice pins s σ H _ _ v u Q I rx ry ⟨_, _, c, rfl, rfl, ?_, ?_, k _ (.str [c] (ok.one (List.mem_of_getElem? e2)))⟩ hs
        · rw [str_len, ← line_eq]; exact ok.2
        · unfold atI
          show (ixN zs.toArray.toList.length i).bind _ = _
          rw [show zs.toArray.toList = zs by simp, ← pyIx_eq, e']
          exact e2
  · cases e

/-! ### slices -/
theorem sIx_eq (n d : Nat) (o : Option Int) : sIx n d o = HT.sIx n d o := by cases o <;> rfl
def rS2 (K : Fg) : V → Option Int → Option Int → Hp → VK → Prop := fun x lo hi H Q => ∃ M p z, MutOk M H ∧ VT K M H p x ∧ slP p lo hi = some z ∧ ZR K M H z Q
theorem VRs.cut {x : List PV} {v : List V} (r : VRs K M H x v) (lo hi : Option Int) : VRs K M H (cut x lo hi) (cutV v lo hi) := by
  unfold Py.cut cutV
  rw [sIx_eq, sIx_eq, r.length]
  exact (r.drop _).take _
theorem cut_whole {α : Type} {xs : List α} {lo hi : Option Int} (h1 : HT.sIx xs.length 0 lo = 0) (h2 : HT.sIx xs.length xs.length hi = xs.length) : cut xs lo hi = xs := by
  unfold cut
  rw [sIx_eq, sIx_eq, h1, h2, List.drop_zero, Nat.sub_zero, List.take_length]
theorem cut_str (x : List Nat) (lo hi : Option Int) : cutS ⟨x.toArray⟩ lo hi = ⟨(cut x lo hi).toArray⟩ := by
  unfold cutS Py.cut
  rw [str_len, sIx_eq, sIx_eq]
theorem cut_ok {x : List Nat} (h : okS x) (lo hi : Option Int) : okS (cut x lo hi) := ⟨fun c hc => h.1 c (List.mem_of_mem_drop (List.mem_of_mem_take hc)), by
  unfold cut
  have := h.2
  rw [List.length_take, List.length_drop]
  omega⟩
theorem sl_p : SlR X (rS2 X.K) := by
  intro pins s σ H x v vl vu lo hi sl Q I rx hs pl pu h
  obtain ⟨M, p, z, mo, hp, e, k⟩ := h
  unfold slP at e
  split at e
  · cases e
    obtain ⟨a, xs, rfl, h1, r1⟩ := hp.lst'
    exact sl_list pins s σ H _ v vl vu _ _ sl Q I rx hs pl pu ⟨a, xs, rfl, SqL.of h1, ZR.lst mo (r1.cut _ _) k⟩
  · cases e
    obtain ⟨a, xs, rfl, h1, r1⟩ := hp.scr'
    exact sl_list pins s σ H _ v vl vu _ _ sl Q I rx hs pl pu ⟨a, xs, rfl, h1, ZR.lst mo (r1.cut _ _) k⟩
  · cases e
    obtain ⟨a, xs, rfl, h1, r1⟩ := hp.tup
    refine sl_tupA pins s σ H _ v vl vu _ _ sl Q I rx hs pl pu ⟨a, xs, rfl, h1, fun ⟨w1, w2⟩ => ?_, fun _ => ZR.tup mo (r1.cut _ _) k⟩
    rw [← r1.length] at w1 w2
    rw [cut_whole w1 w2] at k
    exact ZR.val (.tup h1 r1) k
  · cases e
    obtain ⟨e1, ok⟩ := hp.str
    subst e1
    refine sl_str pins s σ H _ v vl vu _ _ sl Q I rx hs pl pu ⟨_, rfl, ?_, ?_⟩
    · rw [str_len, ← line_eq]; exact ok.2
    · rw [cut_str]
      exact ZR.val (.str _ (cut_ok ok _ _)) k
  · cases e

/-! ### truth -/
theorem empty_eq {x : List PV} {v : List V} (r : VRs K M H x v) : x.isEmpty = v.isEmpty := by cases r <;> rfl
theorem VT.tru {x : PV} {v : V} (h : VT K M H x v) (nt : ∀ t ks vs, x ≠ .dic t ks vs) (nc : ∀ a, x ≠ .cel a) : TruV K v H (truth x) := by
  cases h with
  | of h =>
    cases h with
    | non => rfl
    | bl b => rfl
    | int i =>
      show (!decide (i = 0)) = (i != 0)
      rw [bne, Bool.beq_eq_decide_eq]
    | str x ok =>
      refine ⟨?_, ?_⟩
      · rw [str_len, ← line_eq]; exact ok.2
      · rw [str_len]
        cases x <;> simp [truth]
        omega
    | tup h r => exact .inr (.inl ⟨_, h, by rw [← empty_eq r]; rfl⟩)
    | lst h _ r => exact .inl ⟨_, SqL.of h, by rw [← empty_eq r]; rfl⟩
    | dicK h _ r => exact absurd rfl (nt _ _ _)
    | dicT h _ _ _ r => exact absurd rfl (nt _ _ _)
    | scr h r => exact .inl ⟨_, .inl (.inr ⟨_, h⟩), by rw [← empty_eq r]; rfl⟩
    | scrK h r => exact .inl ⟨_, h H, by rw [← empty_eq r]; rfl⟩
    | cel h => exact absurd rfl (nc _)
  | lst h r => exact .inl ⟨_, SqL.of h, by rw [← empty_eq r]; rfl⟩
  | dicK h r => exact absurd rfl (nt _ _ _)
  | dicT h _ _ r => exact absurd rfl (nt _ _ _)
end
end Py

set_option Elab.async false
set_option linter.all false
set_option maxRecDepth 100000
set_option maxHeartbeats 4000000
namespace Py
open PySem PySem.Spec PyProof.Rows L2
def tE (K : Fg) (f : RE) : TE := fun σ H Q => ∃ ρ E S v S', Sim K ρ S H ∧ ER K ρ S H E σ ∧ f E S = some (v, S') ∧ ∀ ρ' v' H', Le ρ S H ρ' S' H' → Sim K ρ' S' H' → VE K ρ' S' H' v v' → New K ρ' S' H' H v v' → Q v' H'
def tL (K : Fg) (f : Env → RL) : TA := fun σ H Q => ∃ ρ E S v S', Sim K ρ S H ∧ ER K ρ S H E σ ∧ f E S = some (v, S') ∧ ∀ ρ' v' H', Le ρ S H ρ' S' H' → Sim K ρ' S' H' → Paired (VE K ρ' S' H') v v' → Q v' H'
def tT (K : Fg) (f : RE) : TT := fun σ H Q => ∃ ρ E S v S' p, Sim K ρ S H ∧ ER K ρ S H E σ ∧ f E S = some (v, S') ∧ rdT S' v = some p ∧ ∀ ρ' H', Le ρ S H ρ' S' H' → Sim K ρ' S' H' → Q (truth p) H'
def tP (K : Fg) (f : Env → RO) : TO := fun σ H Q => ∃ ρ E S v S', Sim K ρ S H ∧ ER K ρ S H E σ ∧ f E S = some (v, S') ∧ ∀ ρ' H', Le ρ S H ρ' S' H' → Sim K ρ' S' H' → Q v H'
abbrev SE (X : Cx) (f : RE) (e : Expr) : Prop := PE X e (tE X.K f)
abbrev SA (X : Cx) (f : Env → RL) (e : List Expr) : Prop := PA X e (tL X.K f)
abbrev ST (X : Cx) (f : RE) (e : Expr) : Prop := PT X e (tT X.K f)
abbrev SW (X : Cx) (f : RE) (e : Expr) : Prop := PW X e (tT X.K f)
abbrev SO (X : Cx) (f : Env → RO) (e : Option Expr) : Prop := PO X e (tP X.K f)
section
variable {X : Cx}
theorem weakE {e : Expr} {t t' : TE} (h : PE X e t) (w : ∀ σ H Q, t' σ H Q → t σ H Q) : PE X e t' := ⟨fun pins s σ H Q I q => h.run pins s σ H Q I (w _ _ _ q)⟩
theorem weakT {e : Expr} {t t' : TT} (h : PT X e t) (w : ∀ σ H Q, t' σ H Q → t σ H Q) : PT X e t' := ⟨fun pins s σ H Q I q => h.run pins s σ H Q I (w _ _ _ q)⟩
theorem weakW {e : Expr} {t t' : TT} (h : PW X e t) (w : ∀ σ H Q, t' σ H Q → t σ H Q) : PW X e t' := ⟨fun wh pins s σ H Q I q => h.run wh pins s σ H Q I (w _ _ _ q)⟩
theorem weakA {e : List Expr} {t t' : TA} (h : PA X e t) (w : ∀ σ H Q, t' σ H Q → t σ H Q) : PA X e t' := ⟨fun p pins s σ H Q I q => h.run p pins s σ H Q I (w _ _ _ q)⟩
theorem weakO {e : Option Expr} {t t' : TO} (h : PO X e t) (w : ∀ σ H Q, t' σ H Q → t σ H Q) : PO X e t' := ⟨fun pins s σ H Q I q => h.run pins s σ H Q I (w _ _ _ q)⟩
variable {K : Fg} {ρ ρ' ρ1 ρ2 : Rh} {S S' S1 S2 : Store} {H H' H1 H2 : Hp} {Q : VK} {z : EV}
theorem zr_of (s2 : Sim K ρ2 S2 H2) (l : Le ρ S H ρ2 S2 H2) (k : ∀ ρ' v' H', Le ρ S H ρ' S2 H' → Sim K ρ' S2 H' → VE K ρ' S2 H' z v' → New K ρ' S2 H' H z v' → Q v' H') : ZR K (Mu ρ2 S2) H2 z Q := fun v H' sm zv => by
  refine k ρ2 v H' (l.trans (.same sm)) (s2.same sm) ?_ ?_
  · cases z with
    | v x => exact zv
    | n x => exact zv.1
    | r a => exact zv.elim
  · cases z with
    | v x => trivial
    | n x => exact fun p e => ⟨l.dom p (zv.2 p e).1, fun c =>
        have sp := s2.plus sm (zv.2 p e).1 (VR.con (by rw [← e]; exact zv.1) c)
        ⟨sp, CV.sub (M' := Mu (ρ2.plus p) S2) ((zv.2 p e).2 c) (fun q z => by
          rcases z with z | ⟨_, z⟩
          · exact (s2.same sm).mutOk q z
          · subst z
            exact VR.con (by rw [← e]; exact zv.1) c) (fun q z => by
          rcases z with (z | z) | z
          · exact .inl (.inl z)
          · exact .inr ⟨rfl, z⟩
          · exact .inl (.inr z)) fun a q z => by
          rcases z with z | ⟨z, _⟩
          · exact z
          · cases z⟩⟩
    | r a => trivial
theorem moves (s : Sim K ρ S H) (l : Le ρ S H ρ' S' H') {xs : List EV} {vs : List V} (h : Paired (VE K ρ S H) xs vs) : Paired (VE K ρ' S' H') xs vs := L2.Paired.mapP h fun _ _ q => q.move s l
/-- the inverse of a match in the store's monad -/
theorem gBin_inv {op : BOp} {f g : R1} {v : EV} (h : gBin op f g S = some (v, S')) : ∃ x S1 y p q, f S = some (x, S1) ∧ g S1 = some (y, S') ∧ rd S' x = some p ∧ rd S' y = some q ∧ binop op p q = some v := by
  unfold gBin at h
  repeat' split at h
  all_goals first | (cases h; done) | (simp only [Option.some.injEq, Prod.mk.injEq] at h; obtain ⟨rfl, rfl⟩ := h; exact ⟨_, _, _, _, _, ‹_›, ‹_›, ‹_›, ‹_›, ‹_›⟩)
theorem gCmp_inv {op : COp} {f g : R1} {v : EV} (h : gCmp op f g S = some (v, S')) : ∃ x S1 y p q b, f S = some (x, S1) ∧ g S1 = some (y, S') ∧ rd S' x = some p ∧ rd S' y = some q ∧ cmpop op p q = some b ∧ v = .v (.bl b) := by
  unfold gCmp at h
  repeat' split at h
  all_goals first | (cases h; done) | (simp only [Option.some.injEq, Prod.mk.injEq] at h; obtain ⟨rfl, rfl⟩ := h; exact ⟨_, _, _, _, _, _, ‹_›, ‹_›, ‹_›, ‹_›, ‹_›, rfl⟩)
theorem gIx_inv {ix : PV → PV → Option PV} {f g : R1} {v : EV} (h : gIx ix f g S = some (v, S')) : ∃ x S1 y p q b, f S = some (x, S1) ∧ g S1 = some (y, S') ∧ rd S' x = some p ∧ rd S' y = some q ∧ ix p q = some b ∧ v = toR b := by
  unfold gIx at h
  repeat' split at h
  all_goals first | (cases h; done) | (simp only [Option.some.injEq, Prod.mk.injEq] at h; obtain ⟨rfl, rfl⟩ := h; exact ⟨_, _, _, _, _, _, ‹_›, ‹_›, ‹_›, ‹_›, ‹_›, rfl⟩)
theorem gSl_inv {f : R1} {l h' : RO} {v : EV} (h : gSl f l h' S = some (v, S')) : ∃ x S1 lo S2 hi p, f S = some (x, S1) ∧ l S1 = some (lo, S2) ∧ h' S2 = some (hi, S') ∧ rd S' x = some p ∧ slP p lo hi = some v := by
  unfold gSl at h
  repeat' split at h
  all_goals first | (cases h; done) | (simp only [Option.some.injEq, Prod.mk.injEq] at h; obtain ⟨rfl, rfl⟩ := h; exact ⟨_, _, _, _, _, _, ‹_›, ‹_›, ‹_›, ‹_›, ‹_›⟩)
theorem gRev_inv {f : R1} {v : EV} (h : gRev f S = some (v, S')) : ∃ x p, f S = some (x, S') ∧ rd S' x = some p ∧ revP p = some v := by
  unfold gRev at h
  repeat' split at h
  all_goals first | (cases h; done) | (simp only [Option.some.injEq, Prod.mk.injEq] at h; obtain ⟨rfl, rfl⟩ := h; exact ⟨_, _, ‹_›, ‹_›, ‹_›⟩)
theorem gNo_inv {f : R1} {v : EV} (h : gNo f S = some (v, S')) : ∃ x p, f S = some (x, S') ∧ rdT S' x = some p ∧ v = .v (.bl (!truth p)) := by
  unfold gNo at h
  repeat' split at h
  all_goals first | (cases h; done) | (simp only [Option.some.injEq, Prod.mk.injEq] at h; obtain ⟨rfl, rfl⟩ := h; exact ⟨_, _, ‹_›, ‹_›, rfl⟩)
theorem gNeg_inv {f : R1} {v : EV} (h : gNeg f S = some (v, S')) : ∃ i, f S = some (.v (.int i), S') ∧ v = .v (.int (-i)) := by
  unfold gNeg at h
  repeat' split at h
  all_goals first | (cases h; done) | (simp only [Option.some.injEq, Prod.mk.injEq] at h; obtain ⟨rfl, rfl⟩ := h; exact ⟨_, ‹_›, rfl⟩)
theorem gIfe_inv {c f g : R1} {v : EV} (h : gIfe c f g S = some (v, S')) : ∃ x S1 p, c S = some (x, S1) ∧ rdT S1 x = some p ∧ ((truth p = true ∧ f S1 = some (v, S')) ∨ (truth p = false ∧ g S1 = some (v, S'))) := by
  unfold gIfe at h
  repeat' split at h
  all_goals first | (cases h; done) | exact ⟨_, _, _, ‹_›, ‹_›, .inl ⟨‹_›, h⟩⟩ | exact ⟨_, _, _, ‹_›, ‹_›, .inr ⟨‹_›, h⟩⟩
theorem gAnd_inv {f g : R1} {v : EV} (h : gAnd f g S = some (v, S')) : ∃ x S1 p, f S = some (x, S1) ∧ rdT S1 x = some p ∧ ((truth p = true ∧ g S1 = some (v, S')) ∨ (truth p = false ∧ v = x ∧ S' = S1)) := by
  unfold gAnd at h
  repeat' split at h
  all_goals first | (cases h; done) | exact ⟨_, _, _, ‹_›, ‹_›, .inl ⟨‹_›, h⟩⟩ | (simp only [Option.some.injEq, Prod.mk.injEq] at h; obtain ⟨rfl, rfl⟩ := h; exact ⟨_, _, _, ‹_›, ‹_›, .inr ⟨‹_›, rfl, rfl⟩⟩)
theorem gOr_inv {f g : R1} {v : EV} (h : gOr f g S = some (v, S')) : ∃ x S1 p, f S = some (x, S1) ∧ rdT S1 x = some p ∧ ((truth p = false ∧ g S1 = some (v, S')) ∨ (truth p = true ∧ v = x ∧ S' = S1)) := by
  unfold gOr at h
  repeat' split at h
  all_goals first | (cases h; done) | exact ⟨_, _, _, ‹_›, ‹_›, .inl ⟨‹_›, h⟩⟩ | (simp only [Option.some.injEq, Prod.mk.injEq] at h; obtain ⟨rfl, rfl⟩ := h; exact ⟨_, _, _, ‹_›, ‹_›, .inr ⟨‹_›, rfl, rfl⟩⟩)
theorem gTup_inv {f : RL} {v : EV} (h : gTup f S = some (v, S')) : ∃ vs xs, f S = some (vs, S') ∧ mapO stor vs = some xs ∧ xs.length ≤ line ∧ v = .v (.tup xs) := by
  unfold gTup at h
  repeat' split at h
  all_goals first | (cases h; done) | (simp only [Option.some.injEq, Prod.mk.injEq] at h; obtain ⟨rfl, rfl⟩ := h; exact ⟨_, _, ‹_›, ‹_›, Nat.le_of_ble_eq_true ‹_›, rfl⟩)
theorem gLst_inv {f : RL} {v : EV} (h : gLst f S = some (v, S')) : ∃ vs xs, f S = some (vs, S') ∧ mapO stor vs = some xs ∧ xs.length ≤ line ∧ v = .n (.lst xs) := by
  unfold gLst at h
  repeat' split at h
  all_goals first | (cases h; done) | (simp only [Option.some.injEq, Prod.mk.injEq] at h; obtain ⟨rfl, rfl⟩ := h; exact ⟨_, _, ‹_›, ‹_›, Nat.le_of_ble_eq_true ‹_›, rfl⟩)
theorem gCons_inv {f : R1} {g : RL} {vs : List EV} (h : gCons f g S = some (vs, S')) : ∃ x S1 xs, f S = some (x, S1) ∧ g S1 = some (xs, S') ∧ vs = x :: xs := by
  unfold gCons at h
  repeat' split at h
  all_goals first | (cases h; done) | (simp only [Option.some.injEq, Prod.mk.injEq] at h; obtain ⟨rfl, rfl⟩ := h; exact ⟨_, _, _, ‹_›, ‹_›, rfl⟩)
theorem gBi_inv {b : Bi} {f : RL} {v : EV} (h : gBi b f S = some (v, S')) : ∃ vs xs, f S = some (vs, S') ∧ mapO (rd S') vs = some xs ∧ biF b xs = some v := by
  unfold gBi at h
  repeat' split at h
  all_goals first | (cases h; done) | (simp only [Option.some.injEq, Prod.mk.injEq] at h; obtain ⟨rfl, rfl⟩ := h; exact ⟨_, _, ‹_›, ‹_›, ‹_›⟩)
theorem gMe_inv {m : Me} {f : R1} {g : RL} {v : EV} (h : gMe m f g S = some (v, S')) : ∃ S1 vs p xs, f S = some (.v p, S1) ∧ g S1 = some (vs, S') ∧ mapO (rd S') vs = some xs ∧ meF m p xs = some v := by
  unfold gMe at h
  repeat' split at h
  all_goals first | (cases h; done) | (simp only [Option.some.injEq, Prod.mk.injEq] at h; obtain ⟨rfl, rfl⟩ := h; exact ⟨_, _, _, _, ‹_›, ‹_›, ‹_›, ‹_›⟩)
theorem gPart_inv {f : R1} {v : Option Int} (h : gPart f S = some (v, S')) : ∃ i, f S = some (.v (.int i), S') ∧ v = some i := by
  unfold gPart at h
  repeat' split at h
  all_goals first | (cases h; done) | (simp only [Option.some.injEq, Prod.mk.injEq] at h; obtain ⟨rfl, rfl⟩ := h; exact ⟨_, ‹_›, rfl⟩)
theorem rdT_rd {x : EV} {p : PV} (h : rdT S x = some p) : rd S x = some p ∧ (∀ t ks vs, p ≠ .dic t ks vs) ∧ ∀ a, p ≠ .cel a := by
  unfold rdT at h
  split at h
  · cases h
  · cases h
  · rename_i hd hc
    exact ⟨h, fun t ks vs e => hd t ks vs (by rw [h, e]), fun a e => hc a (by rw [h, e])⟩
theorem tru_of {v : V} {x : EV} {p : PV} (s : Sim K ρ S H) (h : VE K ρ S H x v) (e : rdT S x = some p) : TruV K v H (truth p) := by
  obtain ⟨e1, e2, e3⟩ := rdT_rd e
  exact (h.vt s e1).tru e2 e3
theorem storAll : ∀ {vs : List EV} {xs : List PV} {us : List V}, mapO stor vs = some xs → Paired (VE K ρ S H) vs us → VRs K (Mu ρ S) H xs us
  | [], _, _, e, h => by cases e; cases h; exact .nil
  | v :: vs, xs, _, e, .cons h r => by
    unfold mapO at e
    cases e1 : stor v with
    | none => rw [e1] at e; cases e
    | some y =>
      rw [e1] at e
      cases e2 : mapO stor vs with
      | none => rw [e2] at e; cases e
      | some ys =>
        rw [e2] at e
        cases e
        exact .cons (h.stor e1) (storAll e2 r)
theorem rdAll (s : Sim K ρ S H) : ∀ {vs : List EV} {xs : List PV} {us : List V}, mapO (rd S) vs = some xs → Paired (VE K ρ S H) vs us → Paired (VT K (Mu ρ S) H) xs us
  | [], _, _, e, h => by cases e; cases h; exact .nil
  | v :: vs, xs, _, e, .cons h r => by
    unfold mapO at e
    cases e1 : rd S v with
    | none => rw [e1] at e; cases e
    | some y =>
      rw [e1] at e
      cases e2 : mapO (rd S) vs with
      | none => rw [e2] at e; cases e
      | some ys =>
        rw [e2] at e
        cases e
        exact .cons (h.vt s e1) (rdAll s e2 r)
end
end Py

set_option Elab.async false
set_option linter.all false
set_option maxRecDepth 100000
set_option maxHeartbeats 4000000
namespace Py
open PySem PySem.Spec PyProof.Rows L2
section
variable {X : Cx} {f g h c : RE} {a b e : Expr} {pos : Pos}
/-! ### names, constants -/
theorem se_var {i : Nat} {x : Str} (hN : X.N[i]? = some x) (hv : Vis X.env.scope x) (hd : (x == ("__debug__" : Str)) = false) (hcd : (x == ("__classdict__" : Str)) = false) : SE X (fun E => gVar E i) (.Name x pos) := by
  refine weakE (pe_var hN hv hd hcd) fun σ H Q ⟨ρ, E, S, v, S', hs, he, hf, k⟩ => ?_
  simp only [gVar] at hf
  split at hf
  · rename_i y hy
    simp only [Option.some.injEq, Prod.mk.injEq] at hf
    obtain ⟨rfl, rfl⟩ := hf
    obtain ⟨u, h1, h2⟩ := he.at_ i _ hy
    exact ⟨u, h1, k ρ u H .refl hs h2.ve h2.new⟩
  · cases hf
theorem set_at {S : Store} {a b : Nat} {c : Cell} {x : PV} (hb : At (S.set a c) b x) : (b = a ∧ holds c = some x) ∨ (b ≠ a ∧ At S b x) := by
  obtain ⟨d, e, q⟩ := hb
  by_cases h : a = b
  · subst h
    rw [List.getElem?_set] at e
    rw [if_pos rfl] at e
    split at e
    · cases e
      exact .inl ⟨rfl, q⟩
    · cases e
  · rw [List.getElem?_set_ne h] at e
    exact .inr ⟨Ne.symm h, _, e, q⟩
theorem set_lv {ρ : Rh} {S : Store} {a : Nat} {c : Cell} {p : Addr} (h : Lv ρ (S.set a c) p) : (∃ x, c = .live x ∧ ρ a = p) ∨ Lv ρ S p := by
  obtain ⟨b, x, e, r⟩ := h
  by_cases q : a = b
  · subst q
    rw [List.getElem?_set, if_pos rfl] at e
    split at e
    · cases e
      exact .inl ⟨x, rfl, r⟩
    · cases e
  · rw [List.getElem?_set_ne q] at e
    exact .inr ⟨b, x, e, r⟩
/-- a cell that dies -/
theorem kill {K : Fg} {ρ : Rh} {S : Store} {H : Hp} {a : Nat} {x : PV} (s : Sim K ρ S H) (e : S[a]? = some (.live x)) :
    Sim K ρ (S.set a .dead) H ∧ Le ρ S H ρ (S.set a .dead) H ∧ VR K (Mu ρ (S.set a .dead)) H x (.ref (ρ a)) := by
  have sub : ∀ b y, At (S.set a .dead) b y → b ≠ a ∧ At S b y := fun b y h => by
    rcases set_at h with ⟨_, q⟩ | q
    · cases q
    · exact q
  have mu : ∀ p, Mu ρ (S.set a .dead) 0 p → Mu ρ S 0 p := fun p h => h.elim .inl fun ⟨b, y, h, r⟩ => .inr ⟨b, y, (sub b y h).2, r⟩
  have lv : ∀ p, Lv ρ (S.set a .dead) p → Lv ρ S p := fun p h => by
    rcases set_lv h with ⟨y, q, _⟩ | q
    · cases q
    · exact q
  have mv : Move (Mu ρ S) H (Mu ρ (S.set a .dead)) H := ⟨s.mutOk, fun _ _ h _ => h, fun p h => .inl (mu p h), fun b p h => ⟨by rw [List.length_set]; exact h.1, h.2⟩⟩
  have ata : At S a x := ⟨_, e, rfl⟩
  refine ⟨⟨fun b d y z h1 h2 => s.inj b d y z (sub b y h1).2 (sub d z h2).2, s.fok, (fun b y h => s.dis b y (sub b y h).2), fun b y h => (s.cell b y (sub b y h).2).move mv fun _ q => q⟩,
    ⟨rfl, fun _ _ h _ => h, fun p h => .inl (lv p h), fun p h => .inl (mu p h), fun b y h => ?_, fun _ _ => rfl, by simp, fun _ h => h, fun b y h => .inl ⟨at_lt (sub b y h).2, y, (sub b y h).2⟩⟩, ?_⟩
  · have : a ≠ b := fun q => by subst q; rw [e] at h; cases h
    rw [List.getElem?_set_ne this]
    exact h
  · exact ((s.cell a x ata).move mv fun _ q => q).vr fun z => z.elim (s.dis a x ata) fun ⟨b, y, h, r⟩ => (sub b y h).1 (s.inj b a y x (sub b y h).2 ata r)
theorem se_frz {i : Nat} {x : Str} (hN : X.N[i]? = some x) (hv : Vis X.env.scope x) (hd : (x == ("__debug__" : Str)) = false) (hcd : (x == ("__classdict__" : Str)) = false) : SE X (fun E => gFrz E i) (.Name x pos) := by
  refine weakE (pe_var hN hv hd hcd) fun σ H Q ⟨ρ, E, S, v, S', hs, he, hf, k⟩ => ?_
  simp only [gFrz] at hf
  split at hf
  · rename_i a hy
    obtain ⟨u, h1, h2, h3⟩ := he.at_ i _ hy
    split at hf
    · rename_i y hc
      simp only [Option.some.injEq, Prod.mk.injEq] at hf
      obtain ⟨rfl, rfl⟩ := hf
      obtain ⟨s2, l2, r2⟩ := kill hs hc
      subst h2
      exact ⟨_, h1, k ρ _ H l2 s2 r2 trivial⟩
    · cases hf
  · rename_i y hy
    simp only [Option.some.injEq, Prod.mk.injEq] at hf
    obtain ⟨rfl, rfl⟩ := hf
    obtain ⟨u, h1, h2⟩ := he.at_ i _ hy
    exact ⟨u, h1, k ρ u H .refl hs h2.ve h2.new⟩
  · cases hf
def cstOk : PV → Const → Bool
  | .non, .none => true
  | .bl b, .bool b' => b == b'
  | .int i, .int j => decide (i = j)
  | .str x, .str z => decide ((⟨x.toArray⟩ : Str) = z) && x.all (fun c => Nat.blt c 1114112) && Nat.ble x.length line
  | _, _ => false
theorem okS_of {x : List Nat} (h1 : x.all (fun c => Nat.blt c 1114112) = true) (h2 : Nat.ble x.length line = true) : okS x := ⟨fun c hc => Nat.le_of_ble_eq_true (List.all_eq_true.mp h1 c hc), Nat.le_of_ble_eq_true h2⟩
theorem se_cst {v : PV} {k : Const} {j : Nat} (hc : cstOk v k = true) : SE X (fun _ S => some (.v v, S)) (.Constant k j pos) := by
  cases v <;> cases k <;> first | cases hc | skip
  · exact weakE pe_non fun σ H Q ⟨ρ, E, S, v, S', hs, he, hf, k⟩ => by cases hf; exact k ρ .non H .refl hs .non trivial
  · rename_i b1 b2
    have e : b1 = b2 := by simpa [cstOk] using hc
    subst e
    exact weakE pe_bl fun σ H Q ⟨ρ, E, S, v, S', hs, he, hf, k⟩ => by cases hf; exact k ρ _ H .refl hs (VR.bl _) trivial
  · rename_i b1 b2
    have e : b1 = b2 := of_decide_eq_true hc
    subst e
    exact weakE pe_int fun σ H Q ⟨ρ, E, S, v, S', hs, he, hf, k⟩ => by cases hf; exact k ρ _ H .refl hs (VR.int _) trivial
  · unfold cstOk at hc
    simp only [Bool.and_eq_true] at hc
    have e := of_decide_eq_true hc.1.1
    subst e
    exact weakE pe_str fun σ H Q ⟨ρ, E, S, v, S', hs, he, hf, k⟩ => by cases hf; exact k ρ _ H .refl hs (VR.str _ (okS_of hc.1.2 hc.2)) trivial
theorem se_glo {G : List PV} {i : Nat} {x : Str} {u : Value} {v : V} {y : PV} (hg : Gl X x) (hm : X.mg x = some u) (r : L2.RelV v u) (hG : G[i]? = some y) (nc : isCon y = false) (hy : ∀ M H, VR X.K M H y v) (hd : (x == ("__debug__" : Str)) = false) : SE X (fun _ => gGlo G i) (.Name x pos) := by
  refine weakE (pe_glob hg hm r hd) fun σ H Q ⟨ρ, E, S, z, S', hs, he, hf, k⟩ => ?_
  simp only [gGlo] at hf
  rw [hG] at hf
  simp only [nc, Option.some.injEq, Prod.mk.injEq] at hf
  obtain ⟨rfl, rfl⟩ := hf
  exact k ρ v H .refl hs (hy _ _) trivial
/-! ### operators -/
theorem se_bin {op : BOp} (ha : SE X f a) (hb : SE X g b) : SE X (fun E => gBin op (f E) (g E)) (.BinOp a (opOf op) b pos) := by
  refine weakE (pe_op (op_bin op) ha hb) fun σ H Q ⟨ρ, E, S, v, S', hs, he, hf, k⟩ => ?_
  obtain ⟨x, S1, y, p, q, h1, h2, h3, h4, h5⟩ := gBin_inv hf
  exact ⟨ρ, E, S, x, S1, hs, he, h1, fun ρ1 x' H1 l1 s1 vx nx => ⟨ρ1, E, S1, y, S', s1, he.move hs l1, h2, fun ρ2 y' H2 l2 s2 vy ny =>
    ⟨_, p, q, v, s2.mutOk, (vx.move s1 l2).vt s2 h3, vy.vt s2 h4, h5, zr_of s2 (l1.trans l2) k⟩⟩⟩
theorem se_cmp {op : COp} (hu : X.A.units + 64 < cLine) (ha : SE X f a) (hb : SE X g b) (hm : behindInMarks (cOf op) b = false) : SE X (fun E => gCmp op (f E) (g E)) (.Compare a [cOf op] [b] pos) := by
  refine weakE (pe_cmpR (op_cmp hu op) ha hb hm) fun σ H Q ⟨ρ, E, S, v, S', hs, he, hf, k⟩ => ?_
  obtain ⟨x, S1, y, p, q, z, h1, h2, h3, h4, h5, rfl⟩ := gCmp_inv hf
  exact ⟨ρ, E, S, x, S1, hs, he, h1, fun ρ1 x' H1 l1 s1 vx nx => ⟨ρ1, E, S1, y, S', s1, he.move hs l1, h2, fun ρ2 y' H2 l2 s2 vy ny =>
    ⟨_, p, q, z, s2.mutOk, (vx.move s1 l2).vt s2 h3, vy.vt s2 h4, h5, k ρ2 _ H2 (l1.trans l2) s2 (VR.bl z) trivial⟩⟩⟩
theorem st_cmp {op : COp} (hu : X.A.units + 64 < cLine) (ha : SE X f a) (hb : SE X g b) (hm : behindInMarks (cOf op) b = false) : ST X (fun E => gCmp op (f E) (g E)) (.Compare a [cOf op] [b] pos) := by
  refine weakT (pt_cmpR (op_cmp hu op) ha hb hm) fun σ H Q ⟨ρ, E, S, v, S', pp, hs, he, hf, hp, k⟩ => ?_
  obtain ⟨x, S1, y, p, q, z, h1, h2, h3, h4, h5, rfl⟩ := gCmp_inv hf
  cases hp
  exact ⟨ρ, E, S, x, S1, hs, he, h1, fun ρ1 x' H1 l1 s1 vx nx => ⟨ρ1, E, S1, y, S', s1, he.move hs l1, h2, fun ρ2 y' H2 l2 s2 vy ny =>
    ⟨_, p, q, z, s2.mutOk, (vx.move s1 l2).vt s2 h3, vy.vt s2 h4, h5, z, rfl, k ρ2 H2 (l1.trans l2) s2⟩⟩⟩
theorem gCmp2_inv {S S' : Store} {op op' : COp} {f g h : R1} {v : EV} (q : gCmp2 op op' f g h S = some (v, S')) : ∃ x S1 y S2 k, f S = some (.v x, S1) ∧ g S1 = some (.v y, S2) ∧ cmpop op x y = some k ∧
    ((k = true ∧ ∃ z j, h S2 = some (.v z, S') ∧ cmpop op' y z = some j ∧ v = .v (.bl j)) ∨ (k = false ∧ S' = S2 ∧ v = .v (.bl false))) := by
  unfold gCmp2 at q
  repeat' split at q
  all_goals first | (cases q; done) | skip
  · simp only [Option.some.injEq, Prod.mk.injEq] at q
    obtain ⟨rfl, rfl⟩ := q
    exact ⟨_, _, _, _, _, ‹_›, ‹_›, ‹_›, .inl ⟨rfl, _, _, ‹_›, ‹_›, rfl⟩⟩
  · simp only [Option.some.injEq, Prod.mk.injEq] at q
    obtain ⟨rfl, rfl⟩ := q
    exact ⟨_, _, _, _, _, ‹_›, ‹_›, ‹_›, .inr ⟨rfl, rfl, rfl⟩⟩
theorem se_cmp2 {d : Expr} {op op' : COp} (hu : X.A.units + 64 < cLine) (ha : SE X f a) (hb : SE X g b) (hd : SE X h d) (hc : PE X (.Compare a [cOf op, cOf op'] [b, d] pos) (tChain (rC X.K (cmpop op)) (rC X.K (cmpop op')) (tE X.K f) (tE X.K g) (tE X.K h))) : SE X (fun E => gCmp2 op op' (f E) (g E) (h E)) (.Compare a [cOf op, cOf op'] [b, d] pos) := by
  refine weakE hc fun σ H Q ⟨ρ, E, S, v, S', hs, he, hf, k⟩ => ?_
  obtain ⟨x, S1, y, S2, kk, h1, h2, h3, h4⟩ := gCmp2_inv hf
  refine ⟨ρ, E, S, _, S1, hs, he, h1, fun ρ1 x' H1 l1 s1 vx nx => ⟨ρ1, E, S1, _, S2, s1, he.move hs l1, h2, fun ρ2 y' H2 l2 s2 vy ny => ?_⟩⟩
  refine ⟨_, x, y, kk, s2.mutOk, (vx.move s1 l2).vt s2 rfl, vy.vt s2 rfl, h3, kk, rfl, ?_⟩
  rcases h4 with ⟨rfl, z, j, h5, h6, rfl⟩ | ⟨rfl, rfl, rfl⟩
  · rw [if_pos rfl]
    exact ⟨ρ2, E, S2, _, S', s2, (he.move hs l1).move s1 l2, h5, fun ρ3 z' H3 l3 s3 vz nz => ⟨_, y, z, j, s3.mutOk, (vy.move s2 l3).vt s3 rfl, vz.vt s3 rfl, h6, k ρ3 _ H3 ((l1.trans l2).trans l3) s3 (VR.bl j) trivial⟩⟩
  · rw [if_neg Bool.false_ne_true]
    exact k ρ2 _ H2 (l1.trans l2) s2 (VR.bl false) trivial
theorem se_neg (ha : SE X f a) : SE X (fun E => gNeg (f E)) (.UnaryOp .USub a pos) := by
  refine weakE (pe_un un_neg ha) fun σ H Q ⟨ρ, E, S, v, S', hs, he, hf, k⟩ => ?_
  obtain ⟨i, h1, rfl⟩ := gNeg_inv hf
  exact ⟨ρ, E, S, _, S', hs, he, h1, fun ρ1 x' H1 l1 s1 vx nx => by
    cases (show VR X.K (Mu ρ1 S') H1 (.int i) x' from vx)
    exact ⟨i, rfl, k ρ1 _ H1 l1 s1 (VR.int _) trivial⟩⟩
end
end Py

set_option Elab.async false
set_option linter.all false
set_option maxRecDepth 100000
set_option maxHeartbeats 4000000
namespace Py
open PySem PySem.Spec PyProof.Rows L2
section
variable {X : Cx} {f g h c : RE} {a b d e : Expr} {pos : Pos} {rest : List Expr}
theorem st_no (ha : ST X f a) : ST X (fun E => gNo (f E)) (.UnaryOp .Not a pos) := by
  refine weakT (pt_not ha) fun σ H Q ⟨ρ, E, S, v, S', pp, hs, he, hf, hp, k⟩ => ?_
  obtain ⟨x, p, h1, h2, rfl⟩ := gNo_inv hf
  cases hp
  exact ⟨ρ, E, S, x, S', p, hs, he, h1, h2, fun ρ1 H1 l1 s1 => k ρ1 H1 l1 s1⟩
theorem se_no (ha : SE X f a) : SE X (fun E => gNo (f E)) (.UnaryOp .Not a pos) := by
  refine weakE (pe_notT ha) fun σ H Q ⟨ρ, E, S, v, S', hs, he, hf, k⟩ => ?_
  obtain ⟨x, p, h1, h2, rfl⟩ := gNo_inv hf
  exact ⟨ρ, E, S, x, S', hs, he, h1, fun ρ1 x' H1 l1 s1 vx nx => ⟨_, tru_of s1 vx h2, k ρ1 _ H1 l1 s1 (VR.bl _) trivial⟩⟩
theorem st_plain (ha : SE X f a) (hp : ∀ whole, isTrue a X.env whole = (do let v ← whole; standAt a.pos; holding [v] (truthy v))) : ST X f a := by
  refine weakT (pt_truth ha hp) fun σ H Q ⟨ρ, E, S, v, S', pp, hs, he, hf, hp, k⟩ => ?_
  exact ⟨ρ, E, S, v, S', hs, he, hf, fun ρ1 x' H1 l1 s1 vx nx => ⟨_, tru_of s1 vx hp, k ρ1 H1 l1 s1⟩⟩
/-! ### and, or -/
theorem se_and (ha : SE X f a) (hb : SE X g (.BoolOp .And (b :: rest) pos)) : SE X (fun E => gAnd (f E) (g E)) (.BoolOp .And (a :: b :: rest) pos) := by
  refine weakE (pe_andT ha hb) fun σ H Q ⟨ρ, E, S, v, S', hs, he, hf, k⟩ => ?_
  obtain ⟨x, S1, p, h1, h2, h3⟩ := gAnd_inv hf
  refine ⟨ρ, E, S, x, S1, hs, he, h1, fun ρ1 x' H1 l1 s1 vx nx => ⟨_, tru_of s1 vx h2, ?_⟩⟩
  rcases h3 with ⟨e, h3⟩ | ⟨e, rfl, rfl⟩
  · rw [e, if_pos rfl]
    exact ⟨ρ1, E, S1, v, S', s1, he.move hs l1, h3, fun ρ2 y' H2 l2 s2 vy ny => k ρ2 y' H2 (l1.trans l2) s2 vy (ny.le l1)⟩
  · rw [e, if_neg Bool.false_ne_true]
    exact k ρ1 x' H1 l1 s1 vx nx
theorem se_or (ha : SE X f a) (hb : SE X g (.BoolOp .Or (b :: rest) pos)) : SE X (fun E => gOr (f E) (g E)) (.BoolOp .Or (a :: b :: rest) pos) := by
  refine weakE (pe_orT ha hb) fun σ H Q ⟨ρ, E, S, v, S', hs, he, hf, k⟩ => ?_
  obtain ⟨x, S1, p, h1, h2, h3⟩ := gOr_inv hf
  refine ⟨ρ, E, S, x, S1, hs, he, h1, fun ρ1 x' H1 l1 s1 vx nx => ⟨_, tru_of s1 vx h2, ?_⟩⟩
  rcases h3 with ⟨e, h3⟩ | ⟨e, rfl, rfl⟩
  · rw [e, if_neg Bool.false_ne_true]
    exact ⟨ρ1, E, S1, v, S', s1, he.move hs l1, h3, fun ρ2 y' H2 l2 s2 vy ny => k ρ2 y' H2 (l1.trans l2) s2 vy (ny.le l1)⟩
  · rw [e, if_pos rfl]
    exact k ρ1 x' H1 l1 s1 vx nx
theorem se_one {op : BoolOp} (ha : SE X f a) : SE X f (.BoolOp op [a] pos) := pe_one ha
theorem sw_and1 (ha : ST X f a) : SW X f (.BoolOp .And [a] pos) := pw_and1 ha
theorem sw_or1 (ha : ST X f a) : SW X f (.BoolOp .Or [a] pos) := pw_or1 ha
theorem sw_and (ha : ST X f a) (hb : SW X g (.BoolOp .And (b :: rest) pos)) : SW X (fun E => gAnd (f E) (g E)) (.BoolOp .And (a :: b :: rest) pos) := by
  refine weakW (pw_and ha hb) fun σ H Q ⟨ρ, E, S, v, S', pp, hs, he, hf, hp, k⟩ => ?_
  obtain ⟨x, S1, p, h1, h2, h3⟩ := gAnd_inv hf
  refine ⟨ρ, E, S, x, S1, p, hs, he, h1, h2, fun ρ1 H1 l1 s1 => ?_⟩
  rcases h3 with ⟨e, h3⟩ | ⟨e, rfl, rfl⟩
  · rw [e, if_pos rfl]
    exact ⟨ρ1, E, S1, v, S', pp, s1, he.move hs l1, h3, hp, fun ρ2 H2 l2 s2 => k ρ2 H2 (l1.trans l2) s2⟩
  · rw [e, if_neg Bool.false_ne_true]
    rw [h2] at hp
    cases hp
    have q := k ρ1 H1 l1 s1
    rw [e] at q
    exact q
theorem sw_or (ha : ST X f a) (hb : SW X g (.BoolOp .Or (b :: rest) pos)) : SW X (fun E => gOr (f E) (g E)) (.BoolOp .Or (a :: b :: rest) pos) := by
  refine weakW (pw_or ha hb) fun σ H Q ⟨ρ, E, S, v, S', pp, hs, he, hf, hp, k⟩ => ?_
  obtain ⟨x, S1, p, h1, h2, h3⟩ := gOr_inv hf
  refine ⟨ρ, E, S, x, S1, p, hs, he, h1, h2, fun ρ1 H1 l1 s1 => ?_⟩
  rcases h3 with ⟨e, h3⟩ | ⟨e, rfl, rfl⟩
  · rw [e, if_neg Bool.false_ne_true]
    exact ⟨ρ1, E, S1, v, S', pp, s1, he.move hs l1, h3, hp, fun ρ2 H2 l2 s2 => k ρ2 H2 (l1.trans l2) s2⟩
  · rw [e, if_pos rfl]
    rw [h2] at hp
    cases hp
    have q := k ρ1 H1 l1 s1
    rw [e] at q
    exact q
theorem se_ife (hc : ST X c d) (ha : SE X f a) (hb : SE X g b) : SE X (fun E => gIfe (c E) (f E) (g E)) (.IfExp d a b pos) := by
  refine weakE (pe_ifExp hc ha hb) fun σ H Q ⟨ρ, E, S, v, S', hs, he, hf, k⟩ => ?_
  obtain ⟨x, S1, p, h1, h2, h3⟩ := gIfe_inv hf
  refine ⟨ρ, E, S, x, S1, p, hs, he, h1, h2, fun ρ1 H1 l1 s1 => ?_⟩
  rcases h3 with ⟨e, h3⟩ | ⟨e, h3⟩
  · rw [e, if_pos rfl]
    exact ⟨ρ1, E, S1, v, S', s1, he.move hs l1, h3, fun ρ2 y' H2 l2 s2 vy ny => k ρ2 y' H2 (l1.trans l2) s2 vy (ny.le l1)⟩
  · rw [e, if_neg Bool.false_ne_true]
    exact ⟨ρ1, E, S1, v, S', s1, he.move hs l1, h3, fun ρ2 y' H2 l2 s2 vy ny => k ρ2 y' H2 (l1.trans l2) s2 vy (ny.le l1)⟩
/-! ### argument lists, displays -/
theorem sa_nil : SA X (fun _ => gNil) [] := weakA pa_nil fun σ H Q ⟨ρ, E, S, v, S', hs, he, hf, k⟩ => by
  cases hf
  exact k ρ [] H .refl hs .nil
theorem sa_cons {es : List Expr} {g : Env → RL} (ha : SE X f a) (hr : SA X g es) (hs : starEach (a :: es) X.env = (false, eval a X.env) :: starEach es X.env) : SA X (fun E => gCons (f E) (g E)) (a :: es) := by
  refine weakA (pa_cons ha hr hs) fun σ H Q ⟨ρ, E, S, v, S', hs, he, hf, k⟩ => ?_
  obtain ⟨x, S1, xs, h1, h2, rfl⟩ := gCons_inv hf
  exact ⟨ρ, E, S, x, S1, hs, he, h1, fun ρ1 x' H1 l1 s1 vx nx => ⟨ρ1, E, S1, xs, S', s1, he.move hs l1, h2, fun ρ2 vs H2 l2 s2 vy => k ρ2 _ H2 (l1.trans l2) s2 (.cons (vx.move s1 l2) vy)⟩⟩
theorem len_of {K : Fg} {M : Ml} {H : Hp} {xs : List PV} {us : List V} (r : VRs K M H xs us) (h : xs.length ≤ line) : us.length ≤ sizeLine := by
  rw [← r.length, ← line_eq]
  exact h
theorem se_tup {es : List Expr} {g : Env → RL} {j : Nat} (ha : SA X g es) : SE X (fun E => gTup (g E)) (.Tuple es j pos) := by
  refine weakE (pe_tup ha) fun σ H Q ⟨ρ, E, S, v, S', hs, he, hf, k⟩ => ?_
  obtain ⟨vs, xs, h1, h2, h3, rfl⟩ := gTup_inv hf
  refine ⟨ρ, E, S, vs, S', hs, he, h1, fun ρ1 us H1 l1 s1 vx => ?_⟩
  have r := storAll h2 vx
  exact ⟨len_of r h3, ZR.tup s1.mutOk r (zr_of s1 l1 k)⟩
theorem se_lst {es : List Expr} {g : Env → RL} (ha : SA X g es) : SE X (fun E => gLst (g E)) (.List es pos) := by
  refine weakE (pe_lst ha) fun σ H Q ⟨ρ, E, S, v, S', hs, he, hf, k⟩ => ?_
  obtain ⟨vs, xs, h1, h2, h3, rfl⟩ := gLst_inv hf
  refine ⟨ρ, E, S, vs, S', hs, he, h1, fun ρ1 us H1 l1 s1 vx => ?_⟩
  have r := storAll h2 vx
  exact ⟨len_of r h3, ZR.lst s1.mutOk r (zr_of s1 l1 k)⟩
/-! ### subscripts, slices -/
theorem se_ix (hs : PlainIx b) (ha : SE X f a) (hb : SE X g b) : SE X (fun E => gIx ixP (f E) (g E)) (.Subscript a b pos) := by
  refine weakE (pe_ix ix_p ha hb hs) fun σ H Q ⟨ρ, E, S, v, S', hs, he, hf, k⟩ => ?_
  obtain ⟨x, S1, y, p, q, z, h1, h2, h3, h4, h5, rfl⟩ := gIx_inv hf
  exact ⟨ρ, E, S, x, S1, hs, he, h1, fun ρ1 x' H1 l1 s1 vx nx => ⟨ρ1, E, S1, y, S', s1, he.move hs l1, h2, fun ρ2 y' H2 l2 s2 vy ny =>
    ⟨_, p, q, z, s2.mutOk, (vx.move s1 l2).vt s2 h3, vy.vt s2 h4, h5, fun v r => k ρ2 v H2 (l1.trans l2) s2 (VE.toR r) New.toR⟩⟩⟩
theorem so_none : SO X (fun _ S => some (none, S)) none := weakO po_none fun σ H Q ⟨ρ, E, S, v, S', hs, he, hf, k⟩ => by
  cases hf
  exact k ρ H .refl hs
theorem so_some (ha : SE X f a) : SO X (fun E => gPart (f E)) (some a) := weakO (po_some ha) fun σ H Q ⟨ρ, E, S, v, S', hs, he, hf, k⟩ => by
  obtain ⟨i, h1, rfl⟩ := gPart_inv hf
  exact ⟨ρ, E, S, _, S', hs, he, h1, fun ρ1 x' H1 l1 s1 vx nx => by
    cases (show VR X.K (Mu ρ1 S') H1 (.int i) x' from vx)
    exact ⟨i, rfl, k ρ1 H1 l1 s1⟩⟩
theorem se_sl {lo hi : Option Expr} {l u : Env → RO} {p2 : Pos} (ha : SE X f a) (hl : SO X l lo) (hh : SO X u hi) : SE X (fun E => gSl (f E) (l E) (u E)) (.Subscript a (.Slice lo hi none p2) pos) := by
  refine weakE (pe_slice sl_p ha hl hh) fun σ H Q ⟨ρ, E, S, v, S', hs, he, hf, k⟩ => ?_
  obtain ⟨x, S1, i, S2, j, p, h1, h2, h3, h4, h5⟩ := gSl_inv hf
  exact ⟨ρ, E, S, x, S1, hs, he, h1, fun ρ1 x' H1 l1 s1 vx nx => ⟨ρ1, E, S1, i, S2, s1, he.move hs l1, h2, fun ρ2 H2 l2 s2 => ⟨ρ2, E, S2, j, S', s2, (he.move hs l1).move s1 l2, h3, fun ρ3 H3 l3 s3 =>
    ⟨_, p, v, s3.mutOk, ((vx.move s1 l2).move s2 l3).vt s3 h4, h5, zr_of s3 ((l1.trans l2).trans l3) k⟩⟩⟩⟩
/-! ### built-ins by name -/
def rBi (K : Fg) (b : Bi) : List V → Hp → VK → Prop := fun vs H Q => ∃ M ps z, MutOk M H ∧ Paired (VT K M H) ps vs ∧ biF b ps = some z ∧ ZR K M H z Q
inductive BV where | b (s : String) | t (s : String)
def biN : Bi → Str
  | .len => "len" | .abs => "abs" | .min2 => "min" | .max2 => "max" | .minL => "min" | .maxL => "max" | .sum => "sum" | .all => "all" | .any => "any" | .int => "int" | .str => "str" | .tuple => "tuple" | .list => "list" | .sorted => "sorted"
def biV : Bi → Value
  | .len => .builtin "len" | .abs => .builtin "abs" | .min2 => .builtin "min" | .max2 => .builtin "max" | .minL => .builtin "min" | .maxL => .builtin "max" | .sum => .builtin "sum" | .all => .builtin "all" | .any => .builtin "any"
  | .int => .type "int" | .str => .type "str" | .tuple => .type "tuple" | .list => .type "list" | .sorted => .builtin "sorted"
theorem minI_le : ∀ (ns : List Int) (m : Int), minI m ns ≤ m ∧ (∀ y ∈ ns, minI m ns ≤ y) ∧ (minI m ns = m ∨ minI m ns ∈ ns)
  | [], m => ⟨Int.le_refl _, (fun _ h => nomatch h), .inl rfl⟩
  | x :: xs, m => by
    have e : minI m (x :: xs) = minI (if x < m then x else m) xs := rfl
    rw [e]
    by_cases q : x < m
    · rw [if_pos q]
      obtain ⟨h1, h2, h3⟩ := minI_le xs x
      refine ⟨by omega, fun y hy => ?_, ?_⟩
      · rcases List.mem_cons.mp hy with rfl | hy
        · exact h1
        · exact h2 y hy
      · rcases h3 with h3 | h3
        · rw [h3]; exact .inr List.mem_cons_self
        · exact .inr (List.mem_cons_of_mem _ h3)
    · rw [if_neg q]
      obtain ⟨h1, h2, h3⟩ := minI_le xs m
      refine ⟨h1, fun y hy => ?_, ?_⟩
      · rcases List.mem_cons.mp hy with rfl | hy
        · omega
        · exact h2 y hy
      · rcases h3 with h3 | h3
        · exact .inl h3
        · exact .inr (List.mem_cons_of_mem _ h3)
theorem maxI_ge : ∀ (ns : List Int) (m : Int), m ≤ maxI m ns ∧ (∀ y ∈ ns, y ≤ maxI m ns) ∧ (maxI m ns = m ∨ maxI m ns ∈ ns)
  | [], m => ⟨Int.le_refl _, (fun _ h => nomatch h), .inl rfl⟩
  | x :: xs, m => by
    have e : maxI m (x :: xs) = maxI (if m < x then x else m) xs := rfl
    rw [e]
    by_cases q : m < x
    · rw [if_pos q]
      obtain ⟨h1, h2, h3⟩ := maxI_ge xs x
      refine ⟨by omega, fun y hy => ?_, ?_⟩
      · rcases List.mem_cons.mp hy with rfl | hy
        · exact h1
        · exact h2 y hy
      · rcases h3 with h3 | h3
        · rw [h3]; exact .inr List.mem_cons_self
        · exact .inr (List.mem_cons_of_mem _ h3)
    · rw [if_neg q]
      obtain ⟨h1, h2, h3⟩ := maxI_ge xs m
      refine ⟨h1, fun y hy => ?_, ?_⟩
      · rcases List.mem_cons.mp hy with rfl | hy
        · omega
        · exact h2 y hy
      · rcases h3 with h3 | h3
        · exact .inl h3
        · exact .inr (List.mem_cons_of_mem _ h3)
theorem pair1 {α β : Type} {F : α → β → Prop} {x : α} {us : List β} (h : Paired F [x] us) : ∃ u, us = [u] ∧ F x u := by
  cases h with | cons h r => cases r; exact ⟨_, rfl, h⟩
theorem pair2 {α β : Type} {F : α → β → Prop} {x y : α} {us : List β} (h : Paired F [x, y] us) : ∃ u v, us = [u, v] ∧ F x u ∧ F y v := by
  cases h with | cons h r => cases r with | cons h2 r => cases r; exact ⟨_, _, rfl, h, h2⟩
end
/-! ### sorted, min, max of trees of one shape -/
section
open PySem.W (keyToks keyToksAll dataLt dataLe alike alikeAll AllAlike Sortable AlikeAll minD maxD)
open PyProof.Rows (itemOrd itemLt)
theorem blt_dec (x y : Nat) : Nat.blt x y = decide (x < y) := by
  by_cases h : x < y
  · rw [decide_eq_true h]
    exact Nat.ble_eq_true_of_le h
  · rw [decide_eq_false h]
    cases q : Nat.blt x y with
    | false => rfl
    | true => exact absurd (Nat.le_of_ble_eq_true q) h
theorem ltN_eq : ∀ a b : List Nat, decide (a < b) = ltN a b
  | [], [] => by simp [ltN]
  | [], _ :: _ => by simp [ltN]
  | _ :: _, [] => by simp [ltN]
  | x :: xs, y :: ys => by
    have ih := ltN_eq xs ys
    simp only [ltN, List.cons_lt_cons_iff, ← ih, blt_dec]
    by_cases h1 : x < y
    · simp [h1]
    · by_cases h2 : y < x
      · have : ¬ x = y := by omega
        simp [h1, h2, this]
      · have e : x = y := by omega
        subst e
        simp
theorem ltI_eq : ∀ a b : Int ⊕ List Nat, itemLt a b = ltI a b
  | .inl _, .inl _ => rfl
  | .inl _, .inr _ => rfl
  | .inr _, .inl _ => rfl
  | .inr a, .inr b => ltN_eq a b
theorem ltT_eq : ∀ a b : List (Int ⊕ List Nat), PyProof.Rows.lexLt itemOrd a b = ltT a b
  | [], [] => rfl
  | [], _ :: _ => rfl
  | _ :: _, [] => rfl
  | x :: r, y :: t => by
    show (itemLt x y || (!itemLt y x && PyProof.Rows.lexLt itemOrd r t)) = (ltI x y || (!ltI y x && ltT r t))
    rw [ltI_eq, ltI_eq, ltT_eq r t]
mutual
theorem tok_eq : ∀ x : PV, keyToks (toD x) = tok x
  | .non => by simp [toD, keyToks, tok]
  | .bl _ => by simp [toD, keyToks, tok]
  | .int _ => by simp [toD, keyToks, tok]
  | .str _ => by simp [toD, keyToks, tok]
  | .tup xs => by simp only [toD, keyToks, tok]; exact toks_eq xs
  | .lst xs => by simp only [toD, keyToks, tok]; exact toks_eq xs
  | .dic _ _ _ => by simp [toD, keyToks, tok]
  | .scr _ => by simp [toD, keyToks, tok]
  | .cel _ => by simp [toD, keyToks, tok]
theorem toks_eq : ∀ xs : List PV, keyToksAll (toDs xs) = toks xs
  | [] => by simp [toDs, keyToksAll, toks]
  | x :: xs => by
    simp only [toDs, keyToksAll, toks]
    rw [tok_eq x, toks_eq xs]
end
theorem ltP_eq (x y : PV) : dataLt (toD x) (toD y) = ltP x y := by
  show PyProof.Rows.lexLt itemOrd (keyToks (toD x)) (keyToks (toD y)) = ltT (tok x) (tok y)
  rw [ltT_eq, tok_eq, tok_eq]
mutual
theorem sh_alike : ∀ a b c : PV, sameSh a b = true → sameSh a c = true → alike (toD b) (toD c) = true
  | .bl _, b, c, h1, h2 => by
    cases b <;> first | (simp [sameSh] at h1; done) | skip
    cases c <;> first | (simp [sameSh] at h2; done) | simp [toD, alike]
  | .int _, b, c, h1, h2 => by
    cases b <;> first | (simp [sameSh] at h1; done) | skip
    cases c <;> first | (simp [sameSh] at h2; done) | simp [toD, alike]
  | .str _, b, c, h1, h2 => by
    cases b <;> first | (simp [sameSh] at h1; done) | skip
    cases c <;> first | (simp [sameSh] at h2; done) | simp [toD, alike]
  | .tup xs, b, c, h1, h2 => by
    cases b <;> first | (simp [sameSh] at h1; done) | skip
    cases c <;> first | (simp [sameSh] at h2; done) | skip
    simp only [sameSh] at h1 h2
    simp only [toD, alike]
    exact shs_alike xs _ _ h1 h2
  | .non, b, c, h1, _ => by simp [sameSh] at h1
  | .lst _, b, c, h1, _ => by simp [sameSh] at h1
  | .dic _ _ _, b, c, h1, _ => by simp [sameSh] at h1
  | .scr _, b, c, h1, _ => by simp [sameSh] at h1
  | .cel _, b, c, h1, _ => by simp [sameSh] at h1
theorem shs_alike : ∀ a b c : List PV, sameShs a b = true → sameShs a c = true → alikeAll (toDs b) (toDs c) = true
  | [], b, c, h1, h2 => by
    cases b <;> first | (simp [sameShs] at h1; done) | simp [toDs, alikeAll]
  | a :: as, b, c, h1, h2 => by
    cases b <;> first | (simp [sameShs] at h1; done) | skip
    cases c <;> first | (simp [sameShs] at h2; done) | skip
    simp only [sameShs, Bool.and_eq_true] at h1 h2
    simp only [toDs, alikeAll, Bool.and_eq_true]
    exact ⟨sh_alike a _ _ h1.1 h2.1, shs_alike as _ _ h1.2 h2.2⟩
end
mutual
theorem tok_inj : ∀ a x y : PV, sameSh a x = true → sameSh a y = true → ∀ l m, tok x ++ l = tok y ++ m → x = y ∧ l = m
  | .bl _, b, c, h1, h2 => by
    cases b <;> first | (simp [sameSh] at h1; done) | skip
    cases c <;> first | (simp [sameSh] at h2; done) | skip
    rename_i p q
    intro l m e
    simp only [tok, List.cons_append, List.nil_append, List.cons.injEq, Sum.inl.injEq] at e
    refine ⟨?_, e.2⟩
    have := e.1
    cases p <;> cases q <;> simp_all
  | .int _, b, c, h1, h2 => by
    cases b <;> first | (simp [sameSh] at h1; done) | skip
    cases c <;> first | (simp [sameSh] at h2; done) | skip
    intro l m e
    simp only [tok, List.cons_append, List.nil_append, List.cons.injEq, Sum.inl.injEq] at e
    exact ⟨by rw [e.1], e.2⟩
  | .str _, b, c, h1, h2 => by
    cases b <;> first | (simp [sameSh] at h1; done) | skip
    cases c <;> first | (simp [sameSh] at h2; done) | skip
    intro l m e
    simp only [tok, List.cons_append, List.nil_append, List.cons.injEq, Sum.inr.injEq] at e
    exact ⟨by rw [e.1], e.2⟩
  | .tup xs, b, c, h1, h2 => by
    cases b <;> first | (simp [sameSh] at h1; done) | skip
    cases c <;> first | (simp [sameSh] at h2; done) | skip
    simp only [sameSh] at h1 h2
    intro l m e
    simp only [tok] at e
    obtain ⟨e1, e2⟩ := toks_inj xs _ _ h1 h2 l m e
    exact ⟨by rw [e1], e2⟩
  | .non, b, c, h1, _ => by simp [sameSh] at h1
  | .lst _, b, c, h1, _ => by simp [sameSh] at h1
  | .dic _ _ _, b, c, h1, _ => by simp [sameSh] at h1
  | .scr _, b, c, h1, _ => by simp [sameSh] at h1
  | .cel _, b, c, h1, _ => by simp [sameSh] at h1
theorem toks_inj : ∀ a x y : List PV, sameShs a x = true → sameShs a y = true → ∀ l m, toks x ++ l = toks y ++ m → x = y ∧ l = m
  | [], b, c, h1, h2 => by
    cases b <;> first | (simp [sameShs] at h1; done) | skip
    cases c <;> first | (simp [sameShs] at h2; done) | skip
    intro l m e
    simp only [toks, List.cons_append, List.nil_append, List.cons.injEq] at e
    exact ⟨rfl, e.2⟩
  | a :: as, b, c, h1, h2 => by
    cases b <;> first | (simp [sameShs] at h1; done) | skip
    cases c <;> first | (simp [sameShs] at h2; done) | skip
    simp only [sameShs, Bool.and_eq_true] at h1 h2
    intro l m e
    simp only [toks, List.cons_append, List.append_assoc, List.cons.injEq, true_and] at e
    obtain ⟨e1, e2⟩ := tok_inj a _ _ h1.1 h2.1 _ _ e
    obtain ⟨e3, e4⟩ := toks_inj as _ _ h1.2 h2.2 _ _ e2
    exact ⟨by rw [e1, e3], e4⟩
end
def leP (x y : PV) : Bool := !ltP y x
theorem leP_kle {x y : PV} : leP x y = true ↔ (PyProof.Rows.KeyOrd.kle (O := PyProof.Rows.listOrd itemOrd) (tok x) (tok y)) := by
  show (!ltT (tok y) (tok x)) = true ↔ PyProof.Rows.lexLt itemOrd (tok y) (tok x) = false
  rw [ltT_eq]
  simp
theorem leP_trans {x y z : PV} (h1 : leP x y = true) (h2 : leP y z = true) : leP x z = true := leP_kle.mpr (PyProof.Rows.KeyOrd.kle_trans (leP_kle.mp h1) (leP_kle.mp h2))
theorem leP_of_lt {x y : PV} (h : ltP x y = true) : leP x y = true := leP_kle.mpr (PyProof.Rows.KeyOrd.kle_of_klt (by
  show PyProof.Rows.lexLt itemOrd (tok x) (tok y) = true
  rw [ltT_eq]
  exact h))
theorem leP_anti {a x y : PV} (hx : sameSh a x = true) (hy : sameSh a y = true) (h1 : leP x y = true) (h2 : leP y x = true) : x = y := by
  have e := PyProof.Rows.KeyOrd.kle_antisymm (O := PyProof.Rows.listOrd itemOrd) (leP_kle.mp h1) (leP_kle.mp h2)
  exact (tok_inj a x y hx hy [] [] (by rw [show tok x = tok y from e])).1
theorem insP_perm (x : PV) : ∀ l : List PV, (insP x l).Perm (x :: l)
  | [] => .refl _
  | y :: ys => by
    unfold insP
    split
    · exact ((insP_perm x ys).cons y).trans (.swap x y ys)
    · exact .refl _
theorem sortP_perm : ∀ l : List PV, (sortP l).Perm l
  | [] => .refl _
  | x :: xs => (insP_perm x (sortP xs)).trans ((sortP_perm xs).cons x)
theorem insP_sorted (x : PV) : ∀ l : List PV, l.Pairwise (leP · · = true) → (insP x l).Pairwise (leP · · = true)
  | [], _ => by simp [insP]
  | y :: ys, h => by
    obtain ⟨h1, h2⟩ := List.pairwise_cons.mp h
    unfold insP
    split
    · rename_i q
      refine List.pairwise_cons.mpr ⟨fun z hz => ?_, insP_sorted x ys h2⟩
      rcases List.mem_cons.mp ((insP_perm x ys).mem_iff.mp hz) with rfl | hz
      · exact leP_of_lt q
      · exact h1 z hz
    · rename_i q
      have q1 : leP x y = true := by
        unfold leP
        rw [Bool.not_eq_true'] 
        exact Bool.eq_false_iff.mpr q
      refine List.pairwise_cons.mpr ⟨fun z hz => ?_, h⟩
      rcases List.mem_cons.mp hz with rfl | hz
      · exact q1
      · exact leP_trans q1 (h1 z hz)
theorem sortP_sorted : ∀ l : List PV, (sortP l).Pairwise (leP · · = true)
  | [] => .nil
  | x :: xs => insP_sorted x _ (sortP_sorted xs)
theorem sortedP_one {c : PV} {a b : List PV} (hs : ∀ x ∈ a, sameSh c x = true) (p : a.Perm b) (ha : a.Pairwise (leP · · = true)) (hb : b.Pairwise (leP · · = true)) : a = b := by
  induction a generalizing b with
  | nil => exact (List.nil_perm.mp p).symm
  | cons x xs ih =>
    cases b with
    | nil => exact (List.perm_nil.mp p)
    | cons y ys =>
      obtain ⟨a1, a2⟩ := List.pairwise_cons.mp ha
      obtain ⟨b1, b2⟩ := List.pairwise_cons.mp hb
      have e : x = y := by
        have h1 : x ∈ y :: ys := p.mem_iff.mp List.mem_cons_self
        have h2 : y ∈ x :: xs := p.mem_iff.mpr List.mem_cons_self
        rcases List.mem_cons.mp h1 with h1 | h1
        · exact h1
        · rcases List.mem_cons.mp h2 with h2 | h2
          · exact h2.symm
          · exact leP_anti (hs x List.mem_cons_self) (hs y (List.mem_cons_of_mem _ h2)) (a1 y h2) (b1 x h1)
      subst e
      rw [ih (fun z hz => hs z (List.mem_cons_of_mem _ hz)) (p.cons_inv) a2 b2]
theorem likes_of {xs : List PV} (h : likes xs = true) : ∀ x ∈ xs, sameSh (xs.headD .non) x = true ∧ headOk (xs.headD .non) = true := by
  cases xs with
  | nil => intro x hx; cases hx
  | cons a r =>
    simp only [likes, Bool.and_eq_true] at h
    intro x hx
    refine ⟨?_, h.2.2⟩
    rcases List.mem_cons.mp hx with rfl | hx
    · exact h.1
    · exact List.all_eq_true.mp h.2.1 x hx
theorem deps_le : ∀ {xs : List PV} {x : PV}, x ∈ xs → dep x ≤ deps xs
  | y :: ys, x, h => by
    simp only [deps]
    rcases List.mem_cons.mp h with rfl | h
    · exact Nat.le_max_left _ _
    · exact Nat.le_trans (deps_le h) (Nat.le_max_right _ _)
section
variable {K : Fg} {M : Ml} {H : Hp}
theorem vrs_zip : ∀ {xs : List PV} {us : List V}, VRs K M H xs us → (us.zip xs).map (·.1) = us ∧ (us.zip xs).map (·.2) = xs ∧ ∀ c ∈ us.zip xs, VR K M H c.2 c.1
  | _, _, .nil => ⟨rfl, rfl, fun _ h => by simp at h⟩
  | _, _, .cons h r => by
    obtain ⟨e1, e2, e3⟩ := vrs_zip r
    refine ⟨by rw [List.zip_cons_cons, List.map_cons, e1], by rw [List.zip_cons_cons, List.map_cons, e2], fun c hc => ?_⟩
    rw [List.zip_cons_cons] at hc
    rcases List.mem_cons.mp hc with rfl | hc
    · exact h
    · exact e3 c hc
theorem vrs_of_pairs : ∀ {cs : List (V × PV)}, (∀ c ∈ cs, VR K M H c.2 c.1) → VRs K M H (cs.map (·.2)) (cs.map (·.1))
  | [], _ => .nil
  | c :: cs, h => .cons (h c List.mem_cons_self) (vrs_of_pairs fun d hd => h d (List.mem_cons_of_mem _ hd))
theorem head_tup {a x : PV} (h : sameSh a x = true) (o : headOk a = true) : (∃ y r, toD x = .tuple (y :: r)) ∨ (toD x ≠ .none ∧ ∀ xs, toD x ≠ .tuple xs) := by
  cases a <;> cases x <;> first | (simp [sameSh] at h; done) | skip
  · exact .inr ⟨by simp [toD], by simp [toD]⟩
  · exact .inr ⟨by simp [toD], by simp [toD]⟩
  · exact .inr ⟨by simp [toD], by simp [toD]⟩
  · rename_i as xs
    simp only [sameSh] at h
    cases as with
    | nil => simp [headOk] at o
    | cons b bs =>
      cases xs with
      | nil => simp [sameShs] at h
      | cons y ys => exact .inl ⟨toD y, toDs ys, by simp [toD, toDs]⟩
theorem kind_tup {a : PV} (o : headOk a = true) : (∀ x, sameSh a x = true → ∃ y r, toD x = .tuple (y :: r)) ∨ ∀ x, sameSh a x = true → toD x ≠ .none ∧ ∀ xs, toD x ≠ .tuple xs := by
  cases a with
  | tup as =>
    refine .inl fun x h => ?_
    rcases head_tup h o with q | q
    · exact q
    · cases x <;> first | (simp [sameSh] at h; done) | (exact absurd rfl (q.2 _ ∘ fun _ => by simp [toD])) | skip
      rename_i xs
      exact absurd (show toD (.tup xs) = .tuple (toDs xs) by simp [toD]) (q.2 _)
  | _ =>
    refine .inr fun x h => ?_
    rcases head_tup h o with ⟨y, r, q⟩ | q
    · cases x <;> first | (simp [sameSh] at h; done) | (simp [toD] at q; done)
    · exact q
/-- what the layer's rules ask of the pairs -/
theorem likes_facts {xs : List PV} {us : List V} (r : VRs K M H xs us) (h : likes xs = true) (hd : deps xs ≤ 50) :
    (∀ c ∈ us.zip xs, Dp K H c.1 (toD c.2)) ∧ AllAlike ((us.zip xs).map fun c => toD c.2) ∧ Sortable ((us.zip xs).map fun c => toD c.2) ∧ (∀ c ∈ us.zip xs, (toD c.2).depth < 60) ∧ (∀ d ∈ (us.zip xs).map (fun c => toD c.2), d ≠ .none) := by
  obtain ⟨e1, e2, e3⟩ := vrs_zip r
  have mem : ∀ c ∈ us.zip xs, c.2 ∈ xs := fun c hc => by
    rw [← e2]
    exact List.mem_map.mpr ⟨c, hc, rfl⟩
  have dp : ∀ c ∈ us.zip xs, dep c.2 ≤ 50 := fun c hc => Nat.le_trans (deps_le (mem c hc)) hd
  refine ⟨fun c hc => VR.dp (e3 c hc) (Nat.lt_of_le_of_lt (dp c hc) (by decide)), fun d hd1 d' hd2 => ?_, ?_, fun c hc => ?_, fun d hd1 => ?_⟩
  · obtain ⟨c, hc, rfl⟩ := List.mem_map.mp hd1
    obtain ⟨c', hc', rfl⟩ := List.mem_map.mp hd2
    exact sh_alike _ _ _ (likes_of h _ (mem c hc)).1 (likes_of h _ (mem c' hc')).1
  · cases xs with
    | nil => exact .inl fun d hd => by simp at hd
    | cons a as =>
      have o : headOk a = true := (likes_of h a List.mem_cons_self).2
      rcases kind_tup o with q | q
      · refine .inl fun d hd => ?_
        obtain ⟨c, hc, rfl⟩ := List.mem_map.mp hd
        exact q _ (likes_of h _ (mem c hc)).1
      · refine .inr fun d hd => ?_
        obtain ⟨c, hc, rfl⟩ := List.mem_map.mp hd
        exact q _ (likes_of h _ (mem c hc)).1
  · rw [(VR.lay (e3 c hc) (Nat.lt_of_le_of_lt (dp c hc) (by decide))).2]
    exact Nat.lt_of_le_of_lt (dp c hc) (by decide)
  · obtain ⟨c, hc, rfl⟩ := List.mem_map.mp hd1
    obtain ⟨q1, q2⟩ := likes_of h _ (mem c hc)
    rcases head_tup q1 q2 with ⟨y, r, q⟩ | q
    · rw [q]; intro z; cases z
    · exact q.1
theorem sort_pairs {xs : List PV} {us : List V} (r : VRs K M H xs us) (h : likes xs = true) : VRs K M H (sortP xs) (((us.zip xs).mergeSort (dataLe false fun c => toD c.2)).map (·.1)) := by
  obtain ⟨e1, e2, e3⟩ := vrs_zip r
  have tl := PySem.W.sortLe_total (PyProof.Rows.listOrd itemOrd) false (fun c : V × PV => keyToks (toD c.2))
  have pw := PySem.W.sort_pairwise tl (us.zip xs)
  have pm := List.mergeSort_perm (us.zip xs) (dataLe false fun c : V × PV => toD c.2)
  have e : sortP xs = ((us.zip xs).mergeSort (dataLe false fun c : V × PV => toD c.2)).map (·.2) := by
    refine sortedP_one (c := xs.headD .non) (fun x hx => (likes_of h x ((sortP_perm xs).mem_iff.mp hx)).1) ?_ (sortP_sorted xs) ?_
    · refine (sortP_perm xs).trans ?_
      have := (pm.map (·.2)).symm
      rw [e2] at this
      exact this
    · rw [List.pairwise_map]
      refine List.Pairwise.imp (fun {a b} q => ?_) pw
      have q : (!PyProof.Rows.lexLt itemOrd (keyToks (toD b.2)) (keyToks (toD a.2))) = true := q
      unfold leP
      rw [← ltP_eq]
      exact q
  rw [e]
  exact vrs_of_pairs fun c hc => e3 c (pm.mem_iff.mp hc)
theorem min_fold (f : PV → PV → Bool) (g : PyData → PyData → Bool) (h : ∀ x y, g (toD x) (toD y) = f x y) : ∀ (r : List PV) (x : PV), (r.map toD).foldl (fun a y => if g y a then y else a) (toD x) = toD (r.foldl (fun a y => if f y a then y else a) x)
  | [], _ => rfl
  | y :: r, x => by
    rw [List.map_cons, List.foldl_cons, List.foldl_cons, h]
    by_cases q : f y x = true
    · rw [if_pos q, if_pos q]
      exact min_fold f g h r y
    · rw [if_neg q, if_neg q]
      exact min_fold f g h r x
theorem fold_mem (f : PV → PV → Bool) : ∀ (r : List PV) (x : PV), r.foldl (fun a y => if f y a then y else a) x ∈ x :: r
  | [], _ => List.mem_cons_self
  | y :: r, x => by
    rw [List.foldl_cons]
    by_cases q : f y x = true
    · rw [if_pos q]
      exact List.mem_cons_of_mem _ (fold_mem f r y)
    · rw [if_neg q]
      rcases List.mem_cons.mp (fold_mem f r x) with e | e
      · rw [e]; exact List.mem_cons_self
      · exact List.mem_cons_of_mem _ (List.mem_cons_of_mem _ e)
theorem toD_inj {a x y : PV} (hx : sameSh a x = true) (hy : sameSh a y = true) (e : toD x = toD y) : x = y :=
  (tok_inj a x y hx hy [] [] (by rw [← tok_eq, ← tok_eq, e])).1
end
end
end Py

set_option Elab.async false
set_option linter.all false
set_option maxRecDepth 100000
set_option maxHeartbeats 4000000
namespace Py
open PySem PySem.Spec PyProof.Rows L2 ZG
open PySem.W (dataLt)
section
variable {X : Cx} {f g h c : RE} {a b d e : Expr} {pos : Pos} {rest : List Expr}
theorem insI_perm (x : Int) : ∀ l : List Int, (insI x l).Perm (x :: l)
  | [] => .refl _
  | y :: ys => by
    unfold insI
    split
    · exact .refl _
    · exact ((insI_perm x ys).cons y).trans (.swap x y ys)
theorem sortI_perm : ∀ l : List Int, (sortI l).Perm l
  | [] => .refl _
  | x :: xs => (insI_perm x (sortI xs)).trans ((sortI_perm xs).cons x)
theorem insI_sorted (x : Int) : ∀ l : List Int, l.Pairwise (· ≤ ·) → (insI x l).Pairwise (· ≤ ·)
  | [], _ => by simp [insI]
  | y :: ys, h => by
    obtain ⟨h1, h2⟩ := List.pairwise_cons.mp h
    unfold insI
    split
    · rename_i q
      refine List.pairwise_cons.mpr ⟨fun z hz => ?_, h⟩
      rcases List.mem_cons.mp hz with rfl | hz
      · exact q
      · exact Int.le_trans q (h1 z hz)
    · rename_i q
      refine List.pairwise_cons.mpr ⟨fun z hz => ?_, insI_sorted x ys h2⟩
      rcases List.mem_cons.mp ((insI_perm x ys).mem_iff.mp hz) with rfl | hz
      · omega
      · exact h1 z hz
theorem sortI_sorted : ∀ l : List Int, (sortI l).Pairwise (· ≤ ·)
  | [] => .nil
  | x :: xs => insI_sorted x _ (sortI_sorted xs)
theorem sorted_one {a b : List Int} (p : a.Perm b) (ha : a.Pairwise (· ≤ ·)) (hb : b.Pairwise (· ≤ ·)) : a = b := by
  induction a generalizing b with
  | nil => exact (List.nil_perm.mp p).symm
  | cons x xs ih =>
    cases b with
    | nil => exact (List.perm_nil.mp p)
    | cons y ys =>
      obtain ⟨a1, a2⟩ := List.pairwise_cons.mp ha
      obtain ⟨b1, b2⟩ := List.pairwise_cons.mp hb
      have e : x = y := by
        have h1 : x ∈ y :: ys := p.mem_iff.mp List.mem_cons_self
        have h2 : y ∈ x :: xs := p.mem_iff.mpr List.mem_cons_self
        rcases List.mem_cons.mp h1 with h1 | h1
        · exact h1
        · rcases List.mem_cons.mp h2 with h2 | h2
          · exact h2.symm
          · have := a1 y h2
            have := b1 x h1
            omega
      subst e
      rw [ih (p.cons_inv) a2 b2]
theorem digs_lt : ∀ (fuel b n : Nat) (acc : List Char), b = 10 → (∀ c ∈ acc, c.toNat < 128) → ∀ c ∈ Nat.toDigitsCore b fuel n acc, c.toNat < 128
  | 0, b, n, acc, _, h => by unfold Nat.toDigitsCore; exact h
  | fuel + 1, b, n, acc, hb, h => by
    subst hb
    have dl : ∀ d : Nat, d < 10 → (Nat.digitChar d).toNat < 128 := by decide
    have h2 : ∀ c ∈ (Nat.digitChar (n % 10)) :: acc, c.toNat < 128 := fun c hc => by
      rcases List.mem_cons.mp hc with rfl | hc
      · exact dl _ (Nat.mod_lt _ (by decide))
      · exact h c hc
    unfold Nat.toDigitsCore
    simp only
    split
    · exact h2
    · exact digs_lt fuel 10 _ _ rfl h2
theorem num_ok (m : Nat) : ∀ c ∈ (Nat.toDigits 10 m).map Char.toNat, c < 128 := fun c hc => by
  obtain ⟨d, hd, rfl⟩ := List.mem_map.mp hc
  exact digs_lt _ 10 _ [] rfl (by simp) d hd
theorem str_int {i : Int} (hl : (strI i).length ≤ line) : Str.ofString (toString i) = ⟨(strI i).toArray⟩ ∧ okS (strI i) := by
  refine ⟨?_, fun c hc => ?_, hl⟩
  · unfold strI
    by_cases h : i < 0
    · rw [if_pos h, PyProof.Rows.toString_neg h]
      have e : (0 - i) = ((i.natAbs : Nat) : Int) := by omega
      rw [e]
      apply TL.ext_tl
      rw [TL.tl_ofString, String.toList_append, List.map_append]
      have e2 := PySem.W.KIN.signs_num i.natAbs
      have e3 : (toString ((i.natAbs : Nat) : Int)).toList.map Char.toNat = (Nat.toDigits 10 i.natAbs).map Char.toNat := by rw [← e2]; exact (TL.tl_ofString _).symm
      rw [e3, TL.tl_mk]
      rfl
    · rw [if_neg h]
      have e : i = ((i.natAbs : Nat) : Int) := by omega
      apply TL.ext_tl
      show (Str.ofString (toString i)).cps.toList = _
      conv => lhs; rw [e]
      rw [PySem.W.KIN.signs_num]
  · unfold strI at hc
    split at hc
    · rcases List.mem_cons.mp hc with rfl | hc
      · decide
      · exact Nat.lt_trans (num_ok _ c hc) (by decide)
    · exact Nat.lt_trans (num_ok _ c hc) (by decide)
open PySem.W (minD maxD dataLt AlikeAll) in
/-- min, max of trees -/
theorem best_bi {M : Ml} {mn : PyData → List PyData → PyData} {mp : PV → List PV → PV} {nm : String} {pins : List (Addr × Obj)} {σ : L2.St} {H : Hp} {s : Shared} {p : Addr} {xs : List PV} {ys : List V} {us : List Value} {z : EV} {Q : VK} (cr : CallR X (.builtin nm) (ZG.rMinD toD X.K mn)) (hf : ∀ (r : List PV) (x : PV), mn (toD x) (r.map toD) = toD (mp x r)) (hm : ∀ (r : List PV) (x : PV), mp x r ∈ x :: r)
    (I : Inv X pins σ H s) (r : Vals [.ref p] us) (h2 : H p = some (.lst ys)) (r2 : VRs X.K M H xs ys) (e : (bestD mp xs).map EV.v = some z) (k : ZR X.K M H z Q) : wpAny (model X.prog X.w) X.A (PySem.call (.builtin nm) us) (EP X pins σ Q) X.xe s := by
  cases xs with
  | nil => cases e
  | cons a as =>
    have e : (if likes (a :: as) && Nat.ble (deps (a :: as)) 50 then some (mp a as) else none).map EV.v = some z := e
    split at e
    · rename_i q
      rw [Bool.and_eq_true] at q
      cases e
      obtain ⟨f1, f2, f3, f4, f5⟩ := likes_facts r2 q.1 (Nat.le_of_ble_eq_true q.2)
      obtain ⟨z1, z2, z3⟩ := vrs_zip r2
      cases r2 with
      | @cons _ v _ vs h r2 =>
        have zc : (v :: vs).zip (a :: as) = (v, a) :: vs.zip as := rfl
        rw [zc] at f1 f2 f3 f4 f5 z1 z2 z3
        have zm : (vs.zip as).map (fun b => toD b.2) = as.map toD := by
          have : (vs.zip as).map (·.2) = as := by simpa using z2
          have e3 : (vs.zip as).map (fun b => toD b.2) = ((vs.zip as).map (·.2)).map toD := by
            rw [List.map_map]
            rfl
          rw [e3, this]
        have hdp : PyData.depthAll (((v, a) :: vs.zip as).map fun b => toD b.2) < 60 := by
          have key : ∀ l : List (V × PV), (∀ c ∈ l, (toD c.2).depth < 60) → PyData.depthAll (l.map fun b => toD b.2) < 60 := by
            intro l
            induction l with
            | nil => intro _; simp [PyData.depthAll]
            | cons c l ih =>
              intro hc
              have h1 := hc c List.mem_cons_self
              have h2 := ih fun d hd => hc d (List.mem_cons_of_mem _ hd)
              simp only [List.map_cons, PyData.depthAll]
              omega
          exact key _ f4
        refine cr pins s σ H _ us Q I r ⟨p, (v, a), vs.zip as, rfl, by rw [z1]; exact SqL.of h2, f1, ⟨fun x hx y hy => f2 x hx y hy, f5⟩, hdp, fun c hc hcm => ?_⟩
        have hcm : toD c.2 = mn (toD a) ((vs.zip as).map fun b => toD b.2) := hcm
        rw [zm, hf as a] at hcm
        have mc : c.2 ∈ a :: as := by
          rw [← z2]
          exact List.mem_map.mpr ⟨c, hc, rfl⟩
        have e2 : c.2 = mp a as := toD_inj (likes_of q.1 _ mc).1 (likes_of q.1 _ (hm as a)).1 hcm
        exact ZR.val (by rw [← e2]; exact z3 c hc) k
    · cases e
theorem call_bi (hc : X.calm = true) (hu : X.A.units + 64 < cLine) (b : Bi) : CallR X (biV b) (rBi X.K b) := by
  intro pins s σ H xs us Q I r h
  obtain ⟨M, ps, z, mo, hp, e, k⟩ := h
  unfold biF at e
  split at e
  · cases e
    obtain ⟨u, rfl, h1⟩ := pair1 hp
    obtain ⟨e1, ok⟩ := h1.str
    subst e1
    refine call_len pins s σ H _ us Q I r ⟨_, _, rfl, ⟨?_, rfl⟩, ?_⟩
    · rw [str_len, ← line_eq]; exact ok.2
    · rw [str_len]; exact ZR.val (.int _) k
  · cases e
    obtain ⟨u, rfl, h1⟩ := pair1 hp
    obtain ⟨p, ys, rfl, h2, r2⟩ := h1.lst'
    refine call_len pins s σ H _ us Q I r ⟨_, _, rfl, .inl ⟨_, SqL.of h2, rfl⟩, ?_⟩
    rw [← r2.length]
    exact ZR.val (.int _) k
  · cases e
    obtain ⟨u, rfl, h1⟩ := pair1 hp
    obtain ⟨p, ys, rfl, h2, r2⟩ := h1.tup
    refine call_len pins s σ H _ us Q I r ⟨_, _, rfl, .inr ⟨_, h2, rfl⟩, ?_⟩
    rw [← r2.length]
    exact ZR.val (.int _) k
  · cases e
    obtain ⟨u, rfl, h1⟩ := pair1 hp
    obtain ⟨p, ys, rfl, h2, r2⟩ := h1.scr'
    refine call_len pins s σ H _ us Q I r ⟨_, _, rfl, .inl ⟨_, h2, rfl⟩, ?_⟩
    rw [← r2.length]
    exact ZR.val (.int _) k
  · cases e
    obtain ⟨u, rfl, h1⟩ := pair1 hp
    obtain ⟨p, rfl, h2⟩ := h1.dic'
    rcases h2 with ⟨kvs, _, h2, rfl, r2⟩ | ⟨_, h2, _⟩
    · refine call_lenD pins s σ H _ us Q I r ⟨_, kvs, rfl, h2, ?_⟩
      have k := ZR.val (.int _) k
      rw [List.length_map] at k
      exact k
    · cases h2
  · cases e
    obtain ⟨u, rfl, h1⟩ := pair1 hp
    cases h1.int
    exact call_abs pins s σ H _ us Q I r ⟨_, rfl, ZR.val (.int _) k⟩
  · cases e
    obtain ⟨u, v, rfl, h1, h2⟩ := pair2 hp
    cases h1.int
    cases h2.int
    exact call_min2 hc pins s σ H _ us Q I r ⟨_, _, rfl, ZR.val (.int _) k⟩
  · cases e
    obtain ⟨u, v, rfl, h1, h2⟩ := pair2 hp
    cases h1.int
    cases h2.int
    exact call_max2 hc pins s σ H _ us Q I r ⟨_, _, rfl, ZR.val (.int _) k⟩
  · cases e
    obtain ⟨u, rfl, h1⟩ := pair1 hp
    cases h1.int
    exact call_int1 pins s σ H _ us Q I r (.inl ⟨_, rfl, ZR.val (.int _) k⟩)
  · cases e
    obtain ⟨u, rfl, h1⟩ := pair1 hp
    cases h1.bl
    exact call_int1 pins s σ H _ us Q I r (.inr ⟨_, rfl, ZR.val (.int _) k⟩)
  · split at e
    · rename_i i hz
      cases e
      obtain ⟨u, rfl, h1⟩ := pair1 hp
      cases h1.int
      rw [Bool.and_eq_true] at hz
      refine call_str_int pins s σ H _ us Q I r ⟨_, rfl, Nat.lt_of_lt_of_le (Nat.le_of_ble_eq_true hz.1) (by decide), ?_⟩
      obtain ⟨e1, ok⟩ := str_int (Nat.le_of_ble_eq_true hz.2)
      rw [e1]
      exact ZR.val (.str _ ok) k
    · cases e
  · cases e
    obtain ⟨u, rfl, h1⟩ := pair1 hp
    obtain ⟨rfl, ok⟩ := h1.str
    exact SkE.call_str_str pins s σ H _ us Q I r ⟨_, rfl, ZR.val (.str _ ok) k⟩
  · cases e
    obtain ⟨u, rfl, h1⟩ := pair1 hp
    obtain ⟨p, ys, rfl, h2, r2⟩ := h1.lst'
    exact call_tuple_of pins s σ H _ us Q I r ⟨p, ys, rfl, .inl ⟨SqL.of h2, ZR.tup mo r2 k⟩⟩
  · cases e
    obtain ⟨u, rfl, h1⟩ := pair1 hp
    obtain ⟨p, ys, rfl, h2, r2⟩ := h1.tup
    exact call_tuple_of pins s σ H _ us Q I r ⟨p, ys, rfl, .inr ⟨h2, ZR.val (.tup h2 r2) k⟩⟩
  · cases e
    obtain ⟨u, rfl, h1⟩ := pair1 hp
    obtain ⟨p, ys, rfl, h2, r2⟩ := h1.lst'
    exact call_list_of pins s σ H _ us Q I r ⟨p, ys, rfl, .inl (SqL.of h2), ZR.lst mo r2 k⟩
  · cases e
    obtain ⟨u, rfl, h1⟩ := pair1 hp
    obtain ⟨p, ys, rfl, h2, r2⟩ := h1.tup
    exact call_list_of pins s σ H _ us Q I r ⟨p, ys, rfl, .inr h2, ZR.lst mo r2 k⟩
  · obtain ⟨u, rfl, h1⟩ := pair1 hp
    obtain ⟨p, ys, rfl, h2, r2⟩ := h1.lst'
    cases e1 : intsOf _ with
    | none => rw [e1] at e; cases e
    | some ns =>
      rw [e1] at e
      cases e
      have := r2.ints e1
      subst this
      exact cr_sum hc pins s σ H _ us Q I r ⟨p, ns, rfl, SqL.of h2, ZR.val (.int _) k⟩
  · obtain ⟨u, rfl, h1⟩ := pair1 hp
    obtain ⟨p, ys, rfl, h2, r2⟩ := h1.tup
    cases e1 : intsOf _ with
    | none => rw [e1] at e; cases e
    | some ns =>
      rw [e1] at e
      cases e
      have := r2.ints e1
      subst this
      exact cr_sumT hc pins s σ H _ us Q I r ⟨p, ns, rfl, h2, ZR.val (.int _) k⟩
  · obtain ⟨u, rfl, h1⟩ := pair1 hp
    obtain ⟨p, ys, rfl, h2, r2⟩ := h1.lst'
    cases e1 : blsOf _ with
    | none => rw [e1] at e; cases e
    | some ns =>
      rw [e1] at e
      cases e
      have := r2.bls e1
      subst this
      exact cr_all hc pins s σ H _ us Q I r ⟨p, ns, rfl, SqL.of h2, ZR.val (.bl _) k⟩
  · obtain ⟨u, rfl, h1⟩ := pair1 hp
    obtain ⟨p, ys, rfl, h2, r2⟩ := h1.lst'
    cases e1 : blsOf _ with
    | none => rw [e1] at e; cases e
    | some ns =>
      rw [e1] at e
      cases e
      have := r2.bls e1
      subst this
      exact cr_any hc pins s σ H _ us Q I r ⟨p, ns, rfl, SqL.of h2, ZR.val (.bl _) k⟩
  · obtain ⟨u, rfl, h1⟩ := pair1 hp
    obtain ⟨p, ys, rfl, h2, r2⟩ := h1.lst'
    cases e1 : intsOf _ with
    | none =>
      rw [e1] at e
      dsimp only at e
      exact best_bi (cr_minD (en := toD) hc hu) (fun r x => min_fold ltP dataLt ltP_eq r x) (fun r x => fold_mem ltP r x) I r h2 r2 e k
    | some ns =>
      rw [e1] at e
      cases ns with
      | nil => cases e
      | cons m l =>
        cases e
        have := r2.ints e1
        subst this
        refine cr_min hc pins s σ H _ us Q I r ⟨p, _, rfl, SqL.of h2, by simp, fun n hn hm => ?_⟩
        obtain ⟨q1, q2, q3⟩ := minI_le l m
        have : n = minI m l := by
          have a1 : minI m l ≤ n := by
            rcases List.mem_cons.mp hn with rfl | hn
            · exact q1
            · exact q2 n hn
          have a2 : n ≤ minI m l := by
            rcases q3 with q3 | q3
            · rw [q3]; exact hm _ List.mem_cons_self
            · exact hm _ (List.mem_cons_of_mem _ q3)
          omega
        rw [this]
        exact ZR.val (.int _) k
  · obtain ⟨u, rfl, h1⟩ := pair1 hp
    obtain ⟨p, ys, rfl, h2, r2⟩ := h1.lst'
    cases e1 : intsOf _ with
    | none =>
      rw [e1] at e
      dsimp only at e
      exact best_bi (cr_maxD (en := toD) hc hu) (fun r x => min_fold (fun y a => ltP a y) (fun y a => dataLt a y) (fun x y => ltP_eq y x) r x) (fun r x => fold_mem (fun y a => ltP a y) r x) I r h2 r2 e k
    | some ns =>
      rw [e1] at e
      cases ns with
      | nil => cases e
      | cons m l =>
        cases e
        have := r2.ints e1
        subst this
        refine cr_max hc pins s σ H _ us Q I r ⟨p, _, rfl, SqL.of h2, by simp, fun n hn hm => ?_⟩
        obtain ⟨q1, q2, q3⟩ := maxI_ge l m
        have : n = maxI m l := by
          have a1 : n ≤ maxI m l := by
            rcases List.mem_cons.mp hn with rfl | hn
            · exact q1
            · exact q2 n hn
          have a2 : maxI m l ≤ n := by
            rcases q3 with q3 | q3
            · rw [q3]; exact hm _ List.mem_cons_self
            · exact hm _ (List.mem_cons_of_mem _ q3)
          omega
        rw [this]
        exact ZR.val (.int _) k
  · obtain ⟨u, rfl, h1⟩ := pair1 hp
    obtain ⟨p, ys, rfl, h2, r2⟩ := h1.lst'
    cases e1 : intsOf _ with
    | none =>
      rw [e1] at e
      dsimp only at e
      cases e2 : sortD _ with
      | none => rw [e2] at e; cases e
      | some zs =>
        rw [e2] at e
        cases e
        unfold sortD at e2
        split at e2
        · rename_i q
          rw [Bool.and_eq_true] at q
          cases e2
          obtain ⟨f1, f2, f3, f4, _⟩ := likes_facts r2 q.1 (Nat.le_of_ble_eq_true q.2)
          obtain ⟨z1, _, _⟩ := vrs_zip r2
          refine cr_sortD (en := toD) hu pins s σ H _ us Q I r ⟨p, ys.zip _, rfl, by rw [z1]; exact SqL.of h2, f1, f2, f3, f4, fun q2 hq => ?_⟩
          exact ZR.lst mo (sort_pairs r2 q.1) k q2 hq
        · cases e2
    | some ns =>
      rw [e1] at e
      cases e
      have := r2.ints e1
      subst this
      refine cr_sortedI pins s σ H _ us Q I r ⟨p, ns, rfl, SqL.of h2, fun ns' q hp' hs hq => ?_⟩
      have : ns' = sortI ns := sorted_one (hp'.trans (sortI_perm ns).symm) hs (sortI_sorted ns)
      subst this
      exact ZR.lst mo (.ofInts _) k q hq
  · cases e
theorem bi_gl (b : Bi) : (∃ s, biV b = .builtin s ∧ bootBuiltins (biN b) = some (.builtin s)) ∨ (∃ s, biV b = .type s ∧ bootBuiltins (biN b) = some (.type s)) := by
  cases b
  · exact .inl ⟨_, rfl, by decide +kernel⟩
  · exact .inl ⟨_, rfl, by decide +kernel⟩
  · exact .inl ⟨_, rfl, by decide +kernel⟩
  · exact .inl ⟨_, rfl, by decide +kernel⟩
  · exact .inl ⟨_, rfl, by decide +kernel⟩
  · exact .inl ⟨_, rfl, by decide +kernel⟩
  · exact .inl ⟨_, rfl, by decide +kernel⟩
  · exact .inl ⟨_, rfl, by decide +kernel⟩
  · exact .inl ⟨_, rfl, by decide +kernel⟩
  · exact .inr ⟨_, rfl, by decide +kernel⟩
  · exact .inr ⟨_, rfl, by decide +kernel⟩
  · exact .inr ⟨_, rfl, by decide +kernel⟩
  · exact .inr ⟨_, rfl, by decide +kernel⟩
  · exact .inl ⟨_, rfl, by decide +kernel⟩
theorem bi_names (b : Bi) : biN b ≠ "__name__" ∧ (biN b == ("__debug__" : Str)) = false := by cases b <;> decide +kernel
theorem se_bi {b : Bi} {es : List Expr} {g : Env → RL} {p : Pos} (hc : X.calm = true) (hu : X.A.units + 64 < cLine) (hg : Gl X (biN b)) (hm : X.mg (biN b) = none) (ha : SA X g (a :: es))
    (he : starEach (a :: es) X.env = (false, eval a X.env) :: starEach es X.env) (hpl : (backTo pos (starEach es X.env)).any (·.1) = false) : SE X (fun E => gBi b (g E)) (.Call (.Name (biN b) p) (a :: es) [] pos) := by
  have main : ∀ σ H Q, tE X.K (fun E => gBi b (g E)) σ H Q → tCB (rBi X.K b) (tL X.K g) σ H Q := fun σ H Q ⟨ρ, E, S, v, S', hs, he, hf, k⟩ => by
    obtain ⟨vs, xs, h1, h2, h3⟩ := gBi_inv hf
    exact ⟨ρ, E, S, vs, S', hs, he, h1, fun ρ1 us H1 l1 s1 vx => ⟨_, xs, v, s1.mutOk, rdAll s1 h2 vx, h3, zr_of s1 l1 k⟩⟩
  obtain ⟨n1, n2⟩ := bi_names b
  have cb := call_bi hc hu b
  rcases bi_gl b with ⟨s, e1, e2⟩ | ⟨s, e1, e2⟩
  · rw [e1] at cb
    exact weakE (pe_callB cb hg hm e2 ha n1 n2 he hpl) main
  · rw [e1] at cb
    exact weakE (pe_callTy cb hg hm e2 ha n1 n2 he hpl) main
end
end Py

set_option Elab.async false
set_option linter.all false
set_option maxRecDepth 100000
set_option maxHeartbeats 4000000
namespace Py
open PySem PySem.Spec PyProof.Rows L2
/-- what a def hands back, as the evaluator says -/
def spO (K : Fg) (C : Ora) (f np : Nat) : Sp := fun vs H Q _ => vs.length = np ∧ ∃ ρ S xs rv S', Sim K ρ S H ∧ Paired (VE K ρ S H) xs vs ∧ C f xs S = some (rv, S') ∧
  ∀ ρ' v' H', Le ρ S H ρ' S' H' → Sim K ρ' S' H' → VE K ρ' S' H' (ofR rv) v' → New K ρ' S' H' H (ofR rv) v' → Q v' H'
section
variable {K : Fg} {M M' : Ml} {H H' : Hp}
mutual
theorem VR.noL (m : ∀ p xs, SqT K H p xs → SqT K H' p xs) : ∀ {x : PV} {v : V}, VR K M H x v → noL x = true → VR K M' H' x v
  | _, _, .non, _ => .non
  | _, _, .bl b, _ => .bl b
  | _, _, .int i, _ => .int i
  | _, _, .str x h, _ => .str x h
  | _, _, .tup h r, n => .tup (m _ _ h) (VRs.noL m r n)
  | _, _, .lst _ _ _, n => nomatch n
  | _, _, .dicK _ _ _, n => nomatch n
  | _, _, .dicT _ _ _ _ _, n => nomatch n
  | _, _, .scr _ _, n => nomatch n
  | _, _, .scrK _ _, n => nomatch n
  | _, _, .cel _, n => nomatch n
theorem VRs.noL (m : ∀ p xs, SqT K H p xs → SqT K H' p xs) : ∀ {x : List PV} {v : List V}, VRs K M H x v → noLs x = true → VRs K M' H' x v
  | _, _, .nil, _ => .nil
  | _, _, .cons h r, n => by
    have n := Bool.and_eq_true_iff.mp n
    exact .cons (VR.noL m h n.1) (VRs.noL m r n.2)
end
/-- no cell: any set of cells that stay -/
theorem sim_nil {ρ : Rh} (F : Addr → Prop) (h : ∀ p, F p → ∃ o, H p = some o ∧ Mut (some o)) : Sim K ⟨ρ.at_, F⟩ [] H :=
  ⟨fun a b x y ⟨_, e, _⟩ => by simp at e, h, fun a x ⟨_, e, _⟩ => by simp at e, fun a x ⟨_, e, _⟩ => by simp at e⟩
theorem mu_nil {ρ : Rh} {p : Addr} : Mu ρ [] 0 p ↔ ρ.F p := ⟨fun h => h.elim id fun ⟨_, _, ⟨_, e, _⟩, _⟩ => by simp at e, .inl⟩
theorem lv_nil {ρ : Rh} {p : Addr} : ¬ Lv ρ [] p := fun ⟨_, _, e, _⟩ => by simp at e
theorem lentAll {ρ : Rh} {S : Store} {ρc : Rh} (s : Sim K ρ S H) (hF : ∀ p, ρc.F p → Mu ρ S 0 p) : ∀ {vs : List EV} {xs : List PV} {us : List V}, mapO (rd S) vs = some xs → noCs xs = true → ((∀ p, ¬ ρc.F p) ∨ vs.any isR = false) → Paired (VE K ρ S H) vs us → Paired (VE K ρc [] H) (xs.map .v) us
  | [], _, _, e, _, _, h => by cases e; cases h; exact .nil
  | v :: vs, xs, _, e, nc, c, .cons h r => by
    unfold mapO at e
    cases e1 : rd S v with
    | none => rw [e1] at e; cases e
    | some y =>
      rw [e1] at e
      cases e2 : mapO (rd S) vs with
      | none => rw [e2] at e; cases e
      | some ys =>
        rw [e2] at e
        cases e
        have nc := Bool.and_eq_true_iff.mp (show (noC y && noCs ys) = true from nc)
        have hs : ∀ p, Mu ρc [] 0 p → Mu ρ S 0 p := fun p q => hF p (mu_nil.mp q)
        refine .cons ?_ (lentAll s hF e2 nc.2 (c.imp id fun c => ?_) r)
        · show VR K (Mu ρc []) H y _
          cases v with
          | v x => cases e1; exact VR.moveC s.mutOk (fun _ _ q _ => q) (fun p q => .inl (hs p q)) h nc.1
          | n x => cases e1; exact VR.moveC s.mutOk (fun _ _ q _ => q) (fun p q => .inl (hs p q)) h nc.1
          | r a =>
            rcases c with c | c
            · obtain ⟨rfl, _⟩ := h
              exact ((s.cell a y (rd_at e1)).subC s.mutOk hs nc.1).vr fun z => c _ (mu_nil.mp z)
            · exact absurd c (by simp [isR])
        · rw [List.any_cons, Bool.or_eq_false_iff] at c
          exact c.2
end
theorem plen {α β : Type} {F : α → β → Prop} : ∀ {xs : List α} {ys : List β}, Paired F xs ys → xs.length = ys.length
  | _, _, .nil => rfl
  | _, _, .cons _ r => congrArg Nat.succ (plen r)
section
variable {X : Cx} {a : Expr} {pos p : Pos} {es : List Expr} {g : Env → RL} {C : Ora} {n np k : Nat} {fa : Addr} {fd : FuncData} {ps : List Str} {x : Str}
theorem gCallS_inv {S S' : Store} {f : RL} {v : EV} (h : gCallS C k f S = some (v, S')) : ∃ vs S1 rv, f S = some (vs, S1) ∧ C k vs S1 = some (rv, S') ∧ v = ofR rv := by
  simp only [gCallS] at h
  repeat' split at h
  all_goals first | (cases h; done) | (simp only [Option.some.injEq, Prod.mk.injEq] at h; obtain ⟨rfl, rfl⟩ := h; exact ⟨_, _, _, ‹_›, ‹_›, rfl⟩)
theorem gCall_inv {S S' : Store} {f : RL} {v : EV} (h : gCall C k f S = some (v, S')) : ∃ vs, f S = some (vs, S') ∧ callP C k vs S' = some v := by
  simp only [gCall] at h
  repeat' split at h
  all_goals first | (cases h; done) | (simp only [Option.some.injEq, Prod.mk.injEq] at h; obtain ⟨rfl, rfl⟩ := h; exact ⟨_, ‹_›, ‹_›⟩)
theorem callP_inv {S : Store} {vs : List EV} {v : EV} (h : callP C k vs S = some v) : ∃ xs rv S', mapO (rd S) vs = some xs ∧ noCs xs = true ∧ C k (xs.map .v) [] = some (rv, S') ∧ noCr rv = true ∧ (vs.any isR = false ∨ noLr rv = true) ∧ v = ofR rv := by
  unfold callP at h
  repeat' split at h
  all_goals first | (cases h; done) | skip
  rename_i q
  cases h
  rw [Bool.and_eq_true, Bool.or_eq_true] at q
  exact ⟨_, _, _, ‹_›, ‹_›, ‹_›, q.1, q.2.imp (fun z => by simpa using z) id, rfl⟩
/-- a call's promise from what the arguments give: with the store -/
theorem sp_shared {σ : L2.St} {H : Hp} {Q : VK} {ρ : Rh} {E : Env} {S : Store} {vs : List EV} {S1 S' : Store} {rv : RV} (hs : Sim X.K ρ S H) (he : ER X.K ρ S H E σ) (h1 : g E S = some (vs, S1)) (h2 : C k vs S1 = some (rv, S'))
    (hl : vs.length = np) (kk : ∀ ρ' v' H', Le ρ S H ρ' S' H' → Sim X.K ρ' S' H' → VE X.K ρ' S' H' (ofR rv) v' → New X.K ρ' S' H' H (ofR rv) v' → Q v' H') :
    tL X.K g σ H fun us H1 => spO X.K C k np (us ++ []) H1 Q E0 :=
  ⟨ρ, E, S, vs, S1, hs, he, h1, fun ρ1 us H1 l1 s1 vx => by
    show spO X.K C k np (us ++ []) H1 Q E0
    rw [List.append_nil]
    exact ⟨(plen vx).symm.trans hl, ρ1, S1, vs, rv, S', s1, vx, h2, fun ρ2 v' H2 l2 s2 vy ny => kk ρ2 v' H2 (l1.trans l2) s2 vy (ny.le l1)⟩⟩
theorem own_new {K : Fg} {ρ ρ' : Rh} {S S' : Store} {H H' : Hp} {v : V} {rv : RV} (hs : Sim K ρ S H) (sm : Same H H') (ve : VE K ρ' S' H' (ofR rv) v) (nw : New K ρ' S' H' H (ofR rv) v)
    (cv : ∀ x p, rv = .own x → isCon x = true → Sim K (ρ.plus p) S H' → Sim K (ρ'.plus p) S' H' → CV K (Mu (ρ'.plus p) S') H' p x → CV K (Mu (ρ.plus p) S) H' p x) : New K ρ S H' H (ofR rv) v := by
  cases rv with
  | v x => trivial
  | own x => exact fun p e => ⟨(nw p e).1, fun c =>
      have sp := hs.plus sm (nw p e).1 (VR.con (by rw [← e]; exact ve) c)
      ⟨sp, cv x p rfl c sp ((nw p e).2 c).1 ((nw p e).2 c).2⟩⟩
/-- .. without -/
theorem sp_pure {H : Hp} {Q : VK} {ρ : Rh} {S : Store} {vs : List EV} {us : List V} {v : EV} (hs : Sim X.K ρ S H) (vx : Paired (VE X.K ρ S H) vs us) (h2 : callP C k vs S = some v)
    (hl : vs.length = np) (kk : ∀ ρ' v' H', Le ρ S H ρ' S H' → Sim X.K ρ' S H' → VE X.K ρ' S H' v v' → New X.K ρ' S H' H v v' → Q v' H') : spO X.K C k np us H Q E0 := by
  obtain ⟨xs, rv, S', e1, nc, e2, nr, e3, rfl⟩ := callP_inv h2
  refine ⟨(plen vx).symm.trans hl, ?_⟩
  by_cases c : vs.any isR = false
  · refine ⟨⟨ρ.at_, Mu ρ S 0⟩, [], xs.map .v, rv, S', sim_nil (ρ := ρ) _ hs.mutOk, lentAll hs (fun _ h => h) e1 nc (.inr c) vx, e2, fun ρ' v' H' l s ve nw => ?_⟩
    have sm : Same H H' := fun p o h => l.keep p o h lv_nil
    have sub : ∀ p, Mu ρ S 0 p → Mu ρ' S' 0 p := fun p h => .inl (by rw [l.fr]; exact h)
    refine kk ρ v' H' (.same sm) (hs.same sm) ?_ (own_new hs sm ve nw fun x p e _ _ sp' cv => cv.subC sp'.mutOk (fun q z => ?_) ?_)
    · cases rv with
      | v x => exact VR.moveC s.mutOk (fun _ _ h _ => h) (fun p h => .inl (sub p h)) ve nr
      | own x => exact VR.moveC s.mutOk (fun _ _ h _ => h) (fun p h => .inl (sub p h)) ve nr
    · rcases z with (z | z) | z
      · exact .inl (.inl (by rw [l.fr]; exact .inl z))
      · exact .inl (.inr z)
      · exact .inl (.inl (by rw [l.fr]; exact .inr z))
    · rw [e] at nr
      exact nr
  · have n3 : noLr rv = true := e3.resolve_left c
    refine ⟨⟨ρ.at_, fun _ => False⟩, [], xs.map .v, rv, S', sim_nil (ρ := ρ) (fun _ => False) (fun _ h => h.elim), lentAll (ρc := ⟨ρ.at_, fun _ => False⟩) hs (fun _ h => False.elim h) e1 nc (.inl fun _ h => h) vx, e2, fun ρ' v' H' l s ve nw => ?_⟩
    have sm : Same H H' := fun p o h => l.keep p o h lv_nil
    refine kk ρ v' H' (.same sm) (hs.same sm) ?_ (own_new hs sm ve nw fun x p e c _ _ cv => ?_)
    rotate_left
    · subst e
      cases x with
      | lst xs =>
        cases cv with
        | lst h r => exact .lst h (VRs.noL (fun _ _ h => h) r n3)
      | _ => cases n3
    cases rv with
    | v x => exact VR.noL (fun _ _ h => h) ve n3
    | own x =>
      cases x with
      | lst xs =>
        cases (show VR X.K (Mu ρ' S') H' (.lst xs) v' from ve) with
        | @lst p _ ys h _ r =>
          exact VR.lst h (hs.mutOk.new (nw p rfl).1) (VRs.noL (fun _ _ h => h) r n3)
      | _ => cases n3
theorem se_callS (F : FnOk X.prog X.w X.K X.mg X.base (L2.CX X.prog X.w) n fa fd ps (spO X.K C k np)) (hr : Room n X.A) (hg : Gl X x) (hm : X.mg x = some (.ref fa)) (hk : PySem.W.keepIn X.K (.ref fa) = true) (hb : Binds X.K fd ps [])
    (ha : SA X g (a :: es)) (hdb : (x == ("__debug__" : Str)) = false) (he : starEach (a :: es) X.env = (false, eval a X.env) :: starEach es X.env) (hpl : (backTo pos (starEach es X.env)).any (·.1) = false)
    (hl : ∀ E S vs S', g E S = some (vs, S') → vs.length = np) : SE X (fun E => gCallS C k (g E)) (.Call (.Name x p) (a :: es) [] pos) := by
  refine weakE (pe_call F hr hg hm hk hb .nil passL ha hdb he hpl) fun σ H Q ⟨ρ, E, S, v, S', hs, he, hf, kk⟩ => ?_
  obtain ⟨vs, S1, rv, h1, h2, rfl⟩ := gCallS_inv hf
  exact sp_shared hs he h1 h2 (hl _ _ _ _ h1) kk
theorem se_call (F : FnOk X.prog X.w X.K X.mg X.base (L2.CX X.prog X.w) n fa fd ps (spO X.K C k np)) (hr : Room n X.A) (hg : Gl X x) (hm : X.mg x = some (.ref fa)) (hk : PySem.W.keepIn X.K (.ref fa) = true) (hb : Binds X.K fd ps [])
    (ha : SA X g (a :: es)) (hdb : (x == ("__debug__" : Str)) = false) (he : starEach (a :: es) X.env = (false, eval a X.env) :: starEach es X.env) (hpl : (backTo pos (starEach es X.env)).any (·.1) = false)
    (hl : ∀ E S vs S', g E S = some (vs, S') → vs.length = np) : SE X (fun E => gCall C k (g E)) (.Call (.Name x p) (a :: es) [] pos) := by
  refine weakE (pe_call F hr hg hm hk hb .nil passL ha hdb he hpl) fun σ H Q ⟨ρ, E, S, v, S', hs, he, hf, kk⟩ => ?_
  obtain ⟨vs, h1, h2⟩ := gCall_inv hf
  exact ⟨ρ, E, S, vs, S', hs, he, h1, fun ρ1 us H1 l1 s1 vx => by
    show spO X.K C k np (us ++ []) H1 Q E0
    rw [List.append_nil]
    exact sp_pure s1 vx h2 (hl _ _ _ _ h1) fun ρ2 v' H2 l2 s2 vy ny => kk ρ2 v' H2 (l1.trans l2) s2 vy (ny.le l1)⟩
theorem se_call0 (F : FnOk X.prog X.w X.K X.mg X.base (L2.CX X.prog X.w) n fa fd ps (spO X.K C k 0)) (hr : Room n X.A) (hg : Gl X x) (hm : X.mg x = some (.ref fa)) (hk : PySem.W.keepIn X.K (.ref fa) = true) (hb : Binds X.K fd ps [])
    (hdb : (x == ("__debug__" : Str)) = false) : SE X (fun _ => gCall C k gNil) (.Call (.Name x p) [] [] pos) := by
  refine weakE (pe_call0 F hr hg hm hk hb .nil passL hdb) fun σ H Q ⟨ρ, E, S, v, S', hs, he, hf, kk⟩ => ?_
  obtain ⟨vs, h1, h2⟩ := gCall_inv hf
  cases h1
  exact sp_pure (us := []) hs .nil h2 rfl kk
end
end Py

set_option Elab.async false
set_option linter.all false
set_option maxRecDepth 100000
set_option maxHeartbeats 4000000
namespace Py
open PySem PySem.Spec PyProof.Rows L2
/-! ### what is walked is locked -/
section
variable {K : Fg} {ρ ρ' ρ2 : Rh} {S S' S2 : Store} {H H' H2 : Hp} {src : EV}
theorem lock_live {a : Nat} {x : PV} (e : S[a]? = some (.live x)) : lock S (.r a) = S.set a (.lock x) := by
  show (match S[a]? with
    | some (.live x) => S.set a (.lock x)
    | _ => S) = _
  rw [e]
theorem unlock_live {a : Nat} {x : PV} (e : S[a]? = some (.live x)) : unlock S2 S (.r a) = S2.set a (.live x) := by
  show (match S[a]? with
    | some (.live x) => S2.set a (.live x)
    | _ => S2) = _
  rw [e]
theorem lock_cases (S : Store) (src : EV) : (lock S src = S ∧ ∀ S2, unlock S2 S src = S2) ∨ ∃ a x, src = .r a ∧ S[a]? = some (.live x) ∧ lock S src = S.set a (.lock x) ∧ ∀ S2, unlock S2 S src = S2.set a (.live x) := by
  cases src with
  | v x => exact .inl ⟨rfl, fun _ => rfl⟩
  | n x => exact .inl ⟨rfl, fun _ => rfl⟩
  | r a =>
    cases e : S[a]? with
    | none =>
      refine .inl ⟨?_, fun S2 => ?_⟩
      · show (match S[a]? with
          | some (.live x) => S.set a (.lock x)
          | _ => S) = _
        rw [e]
      · show (match S[a]? with
          | some (.live x) => S2.set a (.live x)
          | _ => S2) = _
        rw [e]
    | some c =>
      cases c with
      | live x => exact .inr ⟨a, x, rfl, e, lock_live e, fun _ => unlock_live e⟩
      | lock x =>
        refine .inl ⟨?_, fun S2 => ?_⟩
        · show (match S[a]? with
            | some (.live x) => S.set a (.lock x)
            | _ => S) = _
          rw [e]
        · show (match S[a]? with
            | some (.live x) => S2.set a (.live x)
            | _ => S2) = _
          rw [e]
      | dead =>
        refine .inl ⟨?_, fun S2 => ?_⟩
        · show (match S[a]? with
            | some (.live x) => S.set a (.lock x)
            | _ => S) = _
          rw [e]
        · show (match S[a]? with
            | some (.live x) => S2.set a (.live x)
            | _ => S2) = _
          rw [e]
/-- a cell that changes its mark alone -/
theorem at_mark {a : Nat} {x : PV} {c d : Cell} (e : S[a]? = some c) (hc : holds c = some x) (hd : holds d = some x) (b : Nat) (y : PV) : At (S.set a d) b y ↔ At S b y := by
  have ha : a < S.length := (List.getElem?_eq_some_iff.mp e).1
  constructor
  · intro h
    rcases set_at h with ⟨rfl, q⟩ | ⟨_, q⟩
    · rw [hd] at q
      cases q
      exact ⟨c, e, hc⟩
    · exact q
  · rintro ⟨f, h, q⟩
    by_cases ab : a = b
    · subst ab
      rw [e] at h
      cases h
      rw [hc] at q
      cases q
      exact ⟨d, by rw [List.getElem?_set_self ha], hd⟩
    · exact ⟨f, by rw [List.getElem?_set_ne ab]; exact h, q⟩
theorem sim_at (h : ∀ b y, At S' b y ↔ At S b y) (hl : S'.length = S.length) (s : Sim K ρ S H) : Sim K ρ S' H := by
  have mu : Mu ρ S' = Mu ρ S := by
    funext n p
    apply propext
    cases n with
    | zero =>
      constructor
      · rintro (z | ⟨a, x, z, r⟩)
        · exact .inl z
        · exact .inr ⟨a, x, (h a x).mp z, r⟩
      · rintro (z | ⟨a, x, z, r⟩)
        · exact .inl z
        · exact .inr ⟨a, x, (h a x).mpr z, r⟩
    | succ n =>
      show (n < S'.length ∧ ρ n = p) ↔ (n < S.length ∧ ρ n = p)
      rw [hl]
  exact ⟨fun a b x y h1 h2 => s.inj a b x y ((h a x).mp h1) ((h b y).mp h2), s.fok, fun a x h1 => s.dis a x ((h a x).mp h1), fun a x h1 => by rw [mu]; exact s.cell a x ((h a x).mp h1)⟩
theorem mu_at (h : ∀ b y, At S' b y ↔ At S b y) (p : Addr) : Mu ρ S' 0 p ↔ Mu ρ S 0 p := by
  constructor
  · rintro (z | ⟨a, x, z, r⟩)
    · exact .inl z
    · exact .inr ⟨a, x, (h a x).mp z, r⟩
  · rintro (z | ⟨a, x, z, r⟩)
    · exact .inl z
    · exact .inr ⟨a, x, (h a x).mpr z, r⟩
theorem lockSim (src : EV) (s : Sim K ρ S H) : Sim K ρ (lock S src) H := by
  rcases lock_cases S src with ⟨e, _⟩ | ⟨a, x, _, e, e1, _⟩
  · rw [e]; exact s
  · rw [e1]
    exact sim_at (at_mark e rfl rfl) (by simp) s
theorem lockLe (src : EV) : Le ρ S H ρ (lock S src) H := by
  rcases lock_cases S src with ⟨e, _⟩ | ⟨a, x, _, e, e1, _⟩
  · rw [e]; exact .refl
  · rw [e1]
    refine ⟨rfl, fun _ _ h _ => h, fun p h => ?_, fun p h => .inl ((mu_at (at_mark e rfl rfl) p).mp h), fun b y h => ?_, fun _ _ => rfl, by simp, fun _ h => h, fun b y h => .inl ⟨at_lt ((at_mark e rfl rfl b y).mp h), y, (at_mark e rfl rfl b y).mp h⟩⟩
    · rcases set_lv h with ⟨y, q, _⟩ | q
      · cases q
      · exact .inl q
    · have : a ≠ b := fun q => by subst q; rw [e] at h; cases h
      rw [List.getElem?_set_ne this]
      exact h
theorem unlockSim (s : Sim K ρ S H) (l : Lq ρ (lock S src) H ρ2 S2 H2) (s2 : Sim K ρ2 S2 H2) : Sim K ρ2 (unlock S2 S src) H2 := by
  rcases lock_cases S src with ⟨_, e⟩ | ⟨a, x, _, e, e1, e2⟩
  · rw [e]; exact s2
  · rw [e2]
    have ha : a < S.length := (List.getElem?_eq_some_iff.mp e).1
    have q : S2[a]? = some (.lock x) := l.lk a x (by rw [e1, List.getElem?_set_self ha])
    exact sim_at (at_mark q rfl rfl) (by simp) s2
theorem unlockLq (l : Lq ρ (lock S src) H ρ2 S2 H2) : Lq ρ S H ρ2 (unlock S2 S src) H2 := by
  have l0 : Lq ρ S H ρ2 S2 H2 := (lockLe src).lq.trans l
  rcases lock_cases S src with ⟨_, e⟩ | ⟨a, x, _, e, e1, e2⟩
  · rw [e]; exact l0
  · rw [e2]
    have ha : a < S.length := (List.getElem?_eq_some_iff.mp e).1
    have q : S2[a]? = some (.lock x) := l.lk a x (by rw [e1, List.getElem?_set_self ha])
    refine ⟨l0.keep, fun p h => ?_, fun p h => l0.mu p ((mu_at (at_mark q rfl rfl) p).mp h), fun b y h => ?_, l0.eq, by simpa using l0.len, l0.dom, fun b y h => l0.new b y ((at_mark q rfl rfl b y).mp h)⟩
    · rcases set_lv h with ⟨y, _, r⟩ | h
      · exact .inl ⟨a, x, e, by rw [← l0.eq a ha]; exact r⟩
      · exact l0.lv p h
    · have : a ≠ b := fun z => by subst z; rw [e] at h; cases h
      rw [List.getElem?_set_ne this]
      exact l0.lk b y h
end
/-! ### slots -/
section
variable {K : Fg} {ρ : Rh} {S : Store} {H : Hp} {E : Env} {σ : L2.St}
theorem ER.set (h : ER K ρ S H E σ) {i : Nat} {x : EV} {v : V} (hx : VS K ρ S H x v) : ER K ρ S H (E.set i (some x)) (σ.set i (some v)) := by
  refine ⟨by simpa using h.len, fun j y hy => ?_⟩
  by_cases e : i = j
  · subst e
    rw [List.getElem?_set, if_pos rfl] at hy
    split at hy
    · rename_i hl
      cases hy
      exact ⟨v, by rw [List.getElem?_set_self (by rw [← h.len]; exact hl)], hx⟩
    · cases hy
  · rw [List.getElem?_set_ne e] at hy
    obtain ⟨u, h1, h2⟩ := h.at_ j y hy
    exact ⟨u, by rw [List.getElem?_set_ne e]; exact h1, h2⟩
theorem ER.none (h : ER K ρ S H E σ) (i : Nat) : ER K ρ S H (E.set i none) (σ.set i none) := by
  refine ⟨by simpa using h.len, fun j y hy => ?_⟩
  by_cases e : i = j
  · subst e
    rw [List.getElem?_set, if_pos rfl] at hy
    split at hy <;> cases hy
  · rw [List.getElem?_set_ne e] at hy
    obtain ⟨u, h1, h2⟩ := h.at_ j y hy
    exact ⟨u, by rw [List.getElem?_set_ne e]; exact h1, h2⟩
theorem ER.wipe (h : ER K ρ S H E σ) : ∀ own : List Nat, ER K ρ S H (Py.wipe E own) (L2.wipe σ own)
  | [] => h
  | v :: vs => (ER.wipe h vs).none v
theorem wipe_set {i : Nat} {x : Option V} : ∀ (own : List Nat) (σ : L2.St), i ∈ own → L2.wipe (σ.set i x) own = L2.wipe σ own
  | v :: vs, σ, h => by
    by_cases hv : i ∈ vs
    · show (L2.wipe (σ.set i x) vs).set v Option.none = (L2.wipe σ vs).set v Option.none
      rw [wipe_set vs σ hv]
    · have e : i = v := by
        rcases List.mem_cons.mp h with e | e
        · exact e
        · exact absurd e hv
      subst e
      have com : ∀ (ws : List Nat) (σ : L2.St), (L2.wipe (σ.set i x) ws).set i Option.none = (L2.wipe σ ws).set i Option.none := by
        intro ws
        induction ws with
        | nil => intro σ; show (σ.set i x).set i Option.none = σ.set i Option.none; rw [List.set_set]
        | cons w ws ih =>
          intro σ
          show ((L2.wipe (σ.set i x) ws).set w Option.none).set i Option.none = ((L2.wipe σ ws).set w Option.none).set i Option.none
          by_cases q : w = i
          · subst q
            rw [List.set_set, List.set_set, ih]
          · rw [List.set_comm _ _ q, List.set_comm _ _ q, ih]
      exact com vs σ
mutual
def slots : Tg → List Nat
  | .nm i => [i]
  | .tp ts => slotss ts
def slotss : List Tg → List Nat
  | [] => []
  | t :: ts => slots t ++ slotss ts
end
end
/-! ### targets -/
/-- an item is stored -/
def tG (K : Fg) (t : Tg) : TG := fun v σ H Q => ∃ ρ E S x E1, ER K ρ S H E σ ∧ VR K (Mu ρ S) H x v ∧ asg t x E = some E1 ∧ ∀ σ', ER K ρ S H E1 σ' → (∀ own, (∀ i ∈ slots t, i ∈ own) → L2.wipe σ' own = L2.wipe σ own) → Q σ' H
def tGs (K : Fg) (ts : List Tg) : TGs := fun vs σ H Q => ∃ ρ E S xs E1, ER K ρ S H E σ ∧ VRs K (Mu ρ S) H xs vs ∧ asgs ts xs E = some E1 ∧ ∀ σ', ER K ρ S H E1 σ' → (∀ own, (∀ i ∈ slotss ts, i ∈ own) → L2.wipe σ' own = L2.wipe σ own) → Q σ' H
abbrev SG (X : Cx) (t : Tg) (e : Expr) : Prop := PG X e (tG X.K t)
abbrev SGs (X : Cx) (t : List Tg) (e : List Expr) : Prop := PGs X e (tGs X.K t)
section
variable {X : Cx} {pos : Pos}
theorem weakG {e : Expr} {t t' : TG} (h : PG X e t) (w : ∀ v σ H Q, t' v σ H Q → t v σ H Q) : PG X e t' := ⟨fun pins s σ H v u Q I r q => h.run pins s σ H v u Q I r (w _ _ _ _ q)⟩
theorem weakGs {e : List Expr} {t t' : TGs} (h : PGs X e t) (w : ∀ v σ H Q, t' v σ H Q → t v σ H Q) : PGs X e t' := ⟨fun pins s σ H v u Q I r q => h.run pins s σ H v u Q I r (w _ _ _ _ q)⟩
theorem sg_name {i : Nat} {x : Str} (hN : X.N.Nodup) (hi : X.N[i]? = some x) (hx : Loc X.env.scope x) (hf : X.fn x = true ∨ X.env.scope.names.lookup x = some .local) : SG X (.nm i) (.Name x pos) :=
  weakG (pg_name hN hi hx hf) fun v σ H Q ⟨ρ, E, S, x, E1, he, r, ha, k⟩ => by
    simp only [asg, Option.some.injEq] at ha
    subst ha
    exact k _ (he.set (x := toR x) (VS.toR r)) fun own h => wipe_set own σ (h i (by simp [slots]))
theorem sgs_nil : SGs X [] [] := weakGs pgs_nil fun v σ H Q ⟨ρ, E, S, x, E1, he, r, ha, k⟩ => by
  cases r with
  | nil =>
    simp only [asgs, Option.some.injEq] at ha
    subst ha
    exact ⟨rfl, k σ he fun _ _ => rfl⟩
  | cons _ _ => simp [asgs] at ha
theorem sgs_cons {e : Expr} {es : List Expr} {t : Tg} {ts : List Tg} (h1 : SG X t e) (h2 : SGs X ts es) (hs : (assignEach (e :: es) X.env).map (·.2) = assign e X.env :: (assignEach es X.env).map (·.2)) : SGs X (t :: ts) (e :: es) :=
  weakGs (pgs_cons h1 h2 hs) fun v σ H Q ⟨ρ, E, S, x, E1, he, r, ha, k⟩ => by
    cases r with
    | nil => simp [asgs] at ha
    | @cons y u ys us h r =>
      simp only [asgs] at ha
      cases q : asg t y E with
      | none => rw [q] at ha; cases ha
      | some E2 =>
        rw [q] at ha
        refine ⟨u, us, rfl, ρ, E, S, y, E2, he, h, q, fun σ1 he1 w1 => ⟨ρ, E2, S, ys, E1, he1, r, ha, fun σ2 he2 w2 => k σ2 he2 fun own ho => ?_⟩⟩
        rw [w2 own fun i hi => ho i (by simp [slotss, hi]), w1 own fun i hi => ho i (by simp [slotss, hi])]
theorem sg_tup {es : List Expr} {j : Nat} {ts : List Tg} (hc : X.calm = true) (h : SGs X ts es) (hn : (assignEach es X.env).length = ts.length) (hst : (assignEach es X.env).findIdx? (·.1) = none) : SG X (.tp ts) (.Tuple es j pos) :=
  weakG (ZG.pg_or (pg_tup hc h hn hst) (pg_lst hc h hn hst)) fun v σ H Q ⟨ρ, E, S, x, E1, he, r, ha, k⟩ => by
        have hl : ∀ (ts : List Tg) (xs : List PV) (E E1 : Env), asgs ts xs E = some E1 → xs.length = ts.length := by
          intro ts
          induction ts with
          | nil => intro xs E E1 h; cases xs <;> simp [asgs] at h ⊢
          | cons t ts ih =>
            intro xs E E1 h
            cases xs with
            | nil => simp [asgs] at h
            | cons x xs =>
              simp only [asgs] at h
              split at h
              · simp [ih _ _ _ h]
              · cases h
        cases x with
        | tup xs =>
          cases r with
          | @tup p _ us h r =>
            simp only [asg] at ha
            exact .inl ⟨p, us, rfl, h, by rw [← r.length]; exact hl _ _ _ _ ha, ρ, E, S, xs, E1, he, r, ha, fun σ' he' w => k σ' he' fun own ho => w own fun i hi => ho i (by simpa [slots] using hi)⟩
        | lst xs =>
          cases r with
          | @lst p _ us h nn r =>
            simp only [asg] at ha
            exact .inr ⟨p, us, rfl, SqL.of h, by rw [← r.length]; exact hl _ _ _ _ ha, ρ, E, S, xs, E1, he, r, ha, fun σ' he' w => k σ' he' fun own ho => w own fun i hi => ho i (by simpa [slots] using hi)⟩
        | _ => simp [asg] at ha
end
end Py

set_option Elab.async false
set_option linter.all false
set_option maxRecDepth 100000
set_option maxHeartbeats 4000000
namespace Py
open PySem PySem.Spec PyProof.Rows L2
/-- a walk gives the items -/
structure Wk (K : Fg) (ρ : Rh) (S : Store) (H : Hp) (items : List PV) (J : It) : Prop where
  ex : ∃ G Y, Walk J items.length G Y ∧ (∀ ρ2 S2 H2, Lq ρ S H ρ2 S2 H2 → Sim K ρ2 S2 H2 → G H2) ∧
    ∀ i ρ2 S2 H2 x H3, Lq ρ S H ρ2 S2 H2 → Sim K ρ2 S2 H2 → i < items.length → Y i H2 x H3 → Same H2 H3 ∧ ∃ y, items[i]? = some y ∧ VR K (Mu ρ2 S2) H3 y x
def tI (K : Fg) (f : Env → RI) : TI := fun σ H R => ∃ ρ E S items src S', Sim K ρ S H ∧ ER K ρ S H E σ ∧ f E S = some (items, src, S') ∧ ∀ ρ' H' J, Le ρ S H ρ' S' H' → Sim K ρ' S' H' → Wk K ρ' (lock S' src) H' items J → R J H'
abbrev SI (X : Cx) (f : Env → RI) (tg it : Expr) : Prop := PI X tg it (tI X.K f)
section
variable {X : Cx} {f g : RE} {tg a b e : Expr} {pos p : Pos}
theorem weakI {e : Expr} {t t' : TI} (h : PI X tg e t) (w : ∀ σ H R, t' σ H R → t σ H R) : PI X tg e t' := ⟨fun pins s σ H R I q => h.run pins s σ H R I (w _ _ _ q)⟩
variable {K : Fg} {ρ ρ' : Rh} {S S' : Store} {H H' : Hp}
theorem wk_list {q : Addr} {xs : List PV} {us : List V} (s : Sim K ρ S H) (h : SqL K H q us) (st : ∀ ρ2 S2 H2, Lq ρ S H ρ2 S2 H2 → SqL K H2 q us) (r : VRs K (Mu ρ S) H xs us) : Wk K ρ S H xs (Itl K q) := by
  refine ⟨_, _, by rw [r.length]; exact walk_list (xs := us), fun ρ2 S2 H2 l _ => st ρ2 S2 H2 l, fun i ρ2 S2 H2 x H3 l s2 hi y => ?_⟩
  obtain ⟨rfl, y⟩ := y
  refine ⟨.refl _, _, List.getElem?_eq_getElem hi, ?_⟩
  obtain ⟨u, h1, h2⟩ := (r.move (l.move s)).get (List.getElem?_eq_getElem hi)
  rw [y] at h1
  cases h1
  exact h2
theorem wk_tup {q : Addr} {xs : List PV} {us : List V} (s : Sim K ρ S H) (h : SqT K H q us) (r : VRs K (Mu ρ S) H xs us) : Wk K ρ S H xs (Itt K q) := by
  refine ⟨_, _, by rw [r.length]; exact walk_tup (xs := us), fun ρ2 S2 H2 l _ => (l.move s).tup h, fun i ρ2 S2 H2 x H3 l s2 hi y => ?_⟩
  obtain ⟨rfl, y⟩ := y
  refine ⟨.refl _, _, List.getElem?_eq_getElem hi, ?_⟩
  obtain ⟨u, h1, h2⟩ := (r.move (l.move s)).get (List.getElem?_eq_getElem hi)
  rw [y] at h1
  cases h1
  exact h2
theorem gVal_inv {f : R1} {items : List PV} {src : EV} (h : gVal f S = some (items, src, S')) : ∃ q, f S = some (src, S') ∧ rd S' src = some q ∧ itemsOf q = some items := by
  simp only [gVal] at h
  repeat' split at h
  all_goals first | (cases h; done) | (simp only [Option.some.injEq, Prod.mk.injEq] at h; obtain ⟨rfl, rfl, rfl⟩ := h; exact ⟨_, ‹_›, ‹_›, ‹_›⟩)
/-- the list that is walked stays -/
theorem stays {src : EV} {q : Addr} {xs : List PV} {us : List V} {v : V} (s : Sim K ρ S H) (ve : VE K ρ S H src v) (e : rd S src = some (.lst xs)) (ev : v = .ref q) (h : H q = some (.lst us)) :
    ∀ ρ2 S2 H2, Lq ρ (lock S src) H ρ2 S2 H2 → SqL K H2 q us := fun ρ2 S2 H2 l => by
  refine SqL.of (l.keep q _ h fun z => ?_)
  cases src with
  | v x =>
    cases e
    subst ev
    cases (show VR K (Mu ρ S) H (.lst xs) (.ref q) from ve) with
    | lst _ n _ => exact n z.mu
  | n x =>
    cases e
    subst ev
    cases (show VR K (Mu ρ S) H (.lst xs) (.ref q) from ve) with
    | lst _ n _ => exact n z.mu
  | r a =>
    obtain ⟨e1, hl⟩ := ve
    rw [ev] at e1
    cases e1
    obtain ⟨b, y, hb, r⟩ := z
    have hat := rd_at e
    have e2 : b = a := (lockSim (.r a) s).inj b a y (.lst xs) ⟨_, hb, rfl⟩ (by
      rcases lock_cases S (.r a) with ⟨e3, _⟩ | ⟨a', x, e3, e4, e5, _⟩
      · rw [e3]; exact hat
      · cases e3
        rw [e5]
        exact (at_mark e4 rfl rfl _ _).mpr hat) r
    subst e2
    rcases lock_cases S (.r b) with ⟨e3, _⟩ | ⟨a', x, e3, e4, e5, _⟩
    · rw [e3] at hb
      have := lock_live hb
      rw [e3] at this
      have h2 : S[b]? = (S.set b (.lock y))[b]? := congrArg (fun T : Store => T[b]?) this
      rw [List.getElem?_set_self hl, hb] at h2
      cases h2
    · cases e3
      rw [e5, List.getElem?_set_self hl] at hb
      cases hb
def iAny (K : Fg) (tl : TE) : TI := fun σ H R => tl σ H fun x H1 => (∃ a xs, x = .ref a ∧ SqL K H1 a xs ∧ R (Itl K a) H1) ∨ (∃ a xs, x = .ref a ∧ SqT K H1 a xs ∧ R (Itt K a) H1) ∨ ∃ z, x = .str z ∧ R (Its z) H1
theorem pi_any {l : Expr} {tl : TE} (hl : PE X l tl) : PI X tg l (iAny X.K tl) := by
  refine ⟨fun pins s σ H R I h => ?_⟩
  refine thn (hl.run pins s σ H _ I h) fun v s1 ⟨x, H1, I1, r1, q1⟩ => ?_
  rcases q1 with ⟨a, xs, e, hq, q⟩ | ⟨a, xs, e, hq, q⟩ | ⟨z, e, q⟩
  · subst e
    cases r1
    obtain ⟨its, rv, p, hz⟩ := I1.list hq
    refine wpAny_pyIter_list p.isList ?_
    refine ⟨s1.heap.objs.size, [s1.heap.objs.size], _, _, H1, rfl, I1.kept (t' := s1.toks) fun b o e => Heap.get?_push_of_some _ e, turn_list a _, ⟨_, Heap.get?_push_size _ rfl, rfl, rfl⟩, fun b hb => ?_, q⟩
    have e : b = s1.heap.objs.size := by simpa using hb
    subst e
    exact I1.fpOk (Nat.le_refl _) (I1.hok.fresh (Nat.le_refl _))
  · subst e
    cases r1
    obtain ⟨its, rv, p, hz⟩ := I1.tuple hq
    refine wpAny_pyIter_tuple (show s1.heap.IsTuple a its.toArray from p) ?_
    refine ⟨s1.heap.objs.size, [s1.heap.objs.size], _, _, H1, rfl, I1.kept (t' := s1.toks) fun b o e => Heap.get?_push_of_some _ e, turn_tuple a _, ⟨_, Heap.get?_push_size _ rfl, rfl, rfl⟩, fun b hb => ?_, q⟩
    have e : b = s1.heap.objs.size := by simpa using hb
    subst e
    exact I1.fpOk (Nat.le_refl _) (I1.hok.fresh (Nat.le_refl _))
  · subst e
    obtain ⟨t, rfl⟩ := r1
    cases ha : z.cps.all (· < 128)
    · exact wpAny_pyIter_wide ha (pi_one (tk := s1.toks) I1 _ (turn_str _ z t "str_iterator" (.inr rfl)) ⟨_, Heap.get?_push_size _ rfl, rfl, rfl⟩ q)
    · exact wpAny_pyIter_ascii ha (pi_one (tk := s1.toks) I1 _ (turn_str _ z t "str_ascii_iterator" (.inl rfl)) ⟨_, Heap.get?_push_size _ rfl, rfl, rfl⟩ q)
theorem mu_lock {src : EV} {p : Addr} (s : Sim K ρ S H) (z : Mu ρ (lock S src) 0 p) : Mu ρ S 0 p := by
  rcases lock_cases S src with ⟨e, _⟩ | ⟨a, x, _, e, e1, _⟩
  · rw [e] at z; exact z
  · rw [e1] at z
    exact (mu_at (at_mark e rfl rfl) p).mp z
theorem vrs_lock {src : EV} {xs : List PV} {us : List V} (s : Sim K ρ S H) (r : VRs K (Mu ρ S) H xs us) : VRs K (Mu ρ (lock S src)) H xs us :=
  r.move ⟨s.mutOk, fun _ _ h _ => h, fun p z => .inl (mu_lock s z), fun a p h => by
    refine ⟨?_, h.2⟩
    rcases lock_cases S src with ⟨e, _⟩ | ⟨b, x, _, e, e1, _⟩
    · rw [e]; exact h.1
    · rw [e1, List.length_set]; exact h.1⟩
theorem wk_str {x : List Nat} (ok : okS x) (s : Sim K ρ S H) : Wk K ρ S H (x.map fun c => .str [c]) (Its ⟨x.toArray⟩) := by
  refine ⟨_, _, by rw [show (x.map fun c => PV.str [c]).length = (⟨x.toArray⟩ : Str).cps.size by simp]; exact walk_str, fun _ _ _ _ _ => trivial, fun i ρ2 S2 H2 y H3 l s2 hi q => ?_⟩
  obtain ⟨rfl, c, h1, rfl⟩ := q
  have h2 : x[i]? = some c := by simpa using h1
  exact ⟨.refl _, .str [c], by rw [List.getElem?_map, h2]; rfl, VR.str [c] (ok.one (List.mem_of_getElem? h2))⟩
theorem si_val (ha : SE X f a) : SI X (fun E => gVal (f E)) tg a := by
  refine weakI (pi_any ha) fun σ H R ⟨ρ, E, S, items, src, S', hs, he, hf, k⟩ => ?_
  obtain ⟨q, h1, h2, h3⟩ := gVal_inv hf
  refine ⟨ρ, E, S, src, S', hs, he, h1, fun ρ1 v H1 l1 s1 vx _ => ?_⟩
  have vt := vx.vt s1 h2
  cases q with
  | lst xs =>
    cases h3
    obtain ⟨q, us, rfl, hq, r⟩ := vt.lst'
    exact .inl ⟨q, us, rfl, SqL.of hq, k ρ1 H1 _ l1 s1 (wk_list (lockSim src s1) (SqL.of hq) (stays s1 vx h2 rfl hq) (vrs_lock s1 r))⟩
  | tup xs =>
    cases h3
    obtain ⟨q, us, rfl, hq, r⟩ := vt.tup
    exact .inr (.inl ⟨q, us, rfl, hq, k ρ1 H1 _ l1 s1 (wk_tup (lockSim src s1) hq (vrs_lock s1 r))⟩)
  | str x =>
    cases h3
    obtain ⟨rfl, ok⟩ := vt.str
    exact .inr (.inr ⟨_, rfl, k ρ1 H1 _ l1 s1 (wk_str ok (lockSim src s1))⟩)
  | _ => cases h3
theorem rangeL_get : ∀ (n : Nat) (lo : Int) (i : Nat), i < n → (rangeL lo n)[i]? = some (.int (lo + i))
  | 0, _, _, h => absurd h (Nat.not_lt_zero _)
  | n + 1, lo, 0, _ => by simp [rangeL]
  | n + 1, lo, i + 1, h => by
    show (rangeL (lo + 1) n)[i]? = _
    rw [rangeL_get n (lo + 1) i (Nat.lt_of_succ_lt_succ h)]
    congr 2
    omega
theorem rangeL_len : ∀ (n : Nat) (lo : Int), (rangeL lo n).length = n
  | 0, _ => rfl
  | n + 1, lo => congrArg Nat.succ (rangeL_len n (lo + 1))
theorem wk_range {lo : Int} {n : Nat} : Wk K ρ S H (rangeL lo n) (Itr lo n) := by
  refine ⟨_, _, by rw [rangeL_len]; exact walk_range, fun _ _ _ _ _ => trivial, fun i ρ2 S2 H2 y H3 l s2 hi q => ?_⟩
  obtain ⟨rfl, rfl⟩ := q
  rw [rangeL_len] at hi
  exact ⟨.refl _, _, rangeL_get n lo i hi, .int _⟩
theorem gRng_inv {f : RL} {items : List PV} {src : EV} (h : gRng f S = some (items, src, S')) : ∃ vs xs, f S = some (vs, S') ∧ mapO stor vs = some xs ∧ rngP xs = some items ∧ src = .v .non := by
  simp only [gRng] at h
  repeat' split at h
  all_goals first | (cases h; done) | (simp only [Option.some.injEq, Prod.mk.injEq] at h; obtain ⟨rfl, rfl, rfl⟩ := h; exact ⟨_, _, ‹_›, ‹_›, ‹_›, rfl⟩)
theorem vrs_one {M : Ml} {x : PV} {us : List V} (h : VRs K M H [x] us) : ∃ u, us = [u] ∧ VR K M H x u := by
  cases h with | cons h r => cases r; exact ⟨_, rfl, h⟩
theorem vrs_two {M : Ml} {x y : PV} {us : List V} (h : VRs K M H [x, y] us) : ∃ u v, us = [u, v] ∧ VR K M H x u ∧ VR K M H y v := by
  cases h with | cons h r => cases r with | cons h2 r => cases r; exact ⟨_, _, rfl, h, h2⟩
theorem si_rng1 {g : Env → RL} (hg : Gl X "range") (hm : X.mg "range" = none) (ha : SA X g [a]) (hs : starEach [a] X.env = [(false, eval a X.env)]) (hl : ∀ E S vs S', g E S = some (vs, S') → vs.length = 1) : SI X (fun E => gRng (g E)) tg (.Call (.Name "range" p) [a] [] pos) := by
  refine weakI (pi_range1 hg hm ha hs) fun σ H R ⟨ρ, E, S, items, src, S', hs, he, hf, k⟩ => ?_
  obtain ⟨vs, xs, h1, h2, h3, rfl⟩ := gRng_inv hf
  refine ⟨ρ, E, S, vs, S', hs, he, h1, fun ρ1 us H1 l1 s1 vx => ?_⟩
  have r := storAll h2 vx
  have hlen : us.length = 1 := (plen vx).symm.trans (hl _ _ _ _ h1)
  unfold rngP at h3
  split at h3
  · split at h3
    · rename_i hc
      cases h3
      simp only [Bool.and_eq_true, decide_eq_true_eq] at hc
      obtain ⟨u, rfl, q⟩ := vrs_one r
      cases q
      exact ⟨_, rfl, hc.1, hc.2, k ρ1 H1 _ l1 s1 wk_range⟩
    · cases h3
  · obtain ⟨u, v, rfl, _⟩ := vrs_two r
    simp at hlen
  · cases h3
theorem si_rng2 {g : Env → RL} (hg : Gl X "range") (hm : X.mg "range" = none) (ha : SA X g [a, b]) (hs : starEach [a, b] X.env = [(false, eval a X.env), (false, eval b X.env)]) (hs2 : starEach [b] X.env = [(false, eval b X.env)]) (hl : ∀ E S vs S', g E S = some (vs, S') → vs.length = 2) :
    SI X (fun E => gRng (g E)) tg (.Call (.Name "range" p) [a, b] [] pos) := by
  refine weakI (pi_range2 hg hm ha hs hs2) fun σ H R ⟨ρ, E, S, items, src, S', hs, he, hf, k⟩ => ?_
  obtain ⟨vs, xs, h1, h2, h3, rfl⟩ := gRng_inv hf
  refine ⟨ρ, E, S, vs, S', hs, he, h1, fun ρ1 us H1 l1 s1 vx => ?_⟩
  have r := storAll h2 vx
  have hlen : us.length = 2 := (plen vx).symm.trans (hl _ _ _ _ h1)
  unfold rngP at h3
  split at h3
  · obtain ⟨u, rfl, _⟩ := vrs_one r
    simp at hlen
  · split at h3
    · rename_i hc
      cases h3
      simp only [Bool.and_eq_true, decide_eq_true_eq] at hc
      obtain ⟨u, v, rfl, q1, q2⟩ := vrs_two r
      cases q1
      cases q2
      exact ⟨_, _, rfl, ⟨hc.1.1.1, hc.1.1.2, hc.1.2, hc.2⟩, k ρ1 H1 _ l1 s1 wk_range⟩
    · cases h3
  · cases h3
/-- a walk that makes pairs -/
theorem wk_pair {J : It} {n : Nat} {G : Hp → Prop} {fx fy : Nat → Option V} {items : List PV} (W : Walk J n G (YPair fx fy)) (hn : items.length = n) (hG : ∀ ρ2 S2 H2, Lq ρ S H ρ2 S2 H2 → Sim K ρ2 S2 H2 → G H2)
    (hy : ∀ i ρ2 S2 H2 x y, Lq ρ S H ρ2 S2 H2 → Sim K ρ2 S2 H2 → i < n → fx i = some x → fy i = some y → ∃ a b, items[i]? = some (.tup [a, b]) ∧ VR K (Mu ρ2 S2) H2 a x ∧ VR K (Mu ρ2 S2) H2 b y) : Wk K ρ S H items J := by
  refine ⟨_, _, by rw [hn]; exact W, hG, fun i ρ2 S2 H2 v H3 l s2 hi q => ?_⟩
  obtain ⟨T, x, y, rfl, hT, rfl, e1, e2⟩ := q
  obtain ⟨a, b, h1, r1, r2⟩ := hy i ρ2 S2 H2 x y l s2 (by omega) e1 e2
  have sm : Same H2 (upd H2 T (.tup [x, y])) := same_new hT
  have mv := Move.same s2.mutOk sm
  exact ⟨sm, _, h1, .tup (SqT.of upd_same) (.cons (r1.move mv) (.cons (r2.move mv) .nil))⟩
theorem enumL_get : ∀ (xs : List PV) (i : Int) (j : Nat) (x : PV), xs[j]? = some x → (enumL i xs)[j]? = some (.tup [.int (i + j), x])
  | [], _, _, _, h => by simp at h
  | y :: ys, i, 0, x, h => by
    simp at h
    subst h
    simp [enumL]
  | y :: ys, i, j + 1, x, h => by
    show (enumL (i + 1) ys)[j]? = _
    rw [enumL_get ys (i + 1) j x (by simpa using h)]
    congr 4
    omega
theorem enumL_len : ∀ (xs : List PV) (i : Int), (enumL i xs).length = xs.length
  | [], _ => rfl
  | _ :: ys, i => congrArg Nat.succ (enumL_len ys (i + 1))
theorem gEnum_inv {f : R1} {items : List PV} {src : EV} (h : gEnum f S = some (items, src, S')) : ∃ x xs, f S = some (x, S') ∧ stor x = some (.lst xs) ∧ items = enumL 0 xs ∧ src = .v .non := by
  simp only [gEnum] at h
  repeat' split at h
  all_goals first | (cases h; done) | (simp only [Option.some.injEq, Prod.mk.injEq] at h; obtain ⟨rfl, rfl, rfl⟩ := h; exact ⟨_, _, ‹_›, ‹_›, rfl, rfl⟩)
theorem si_enum {elts : List Expr} {kk : Nat} {tpos : Pos} (hg : Gl X "enumerate") (hm : X.mg "enumerate" = none) (ha : SE X f a) (hs : starEach [a] X.env = [(false, eval a X.env)]) :
    SI X (fun E => gEnum (f E)) (.Tuple elts kk tpos) (.Call (.Name "enumerate" p) [a] [] pos) := by
  refine weakI (pi_enum hg hm (pa_cons ha pa_nil (by rw [hs]; rfl)) hs) fun σ H R ⟨ρ, E, S, items, src, S', hs, he, hf, k⟩ => ?_
  obtain ⟨x, xs, h1, h2, rfl, rfl⟩ := gEnum_inv hf
  refine ⟨ρ, E, S, x, S', hs, he, h1, fun ρ1 v H1 l1 s1 vx _ => ?_⟩
  have r := vx.stor h2
  cases r with
  | @lst q _ us hq n r =>
    have st : ∀ ρ2 S2 H2, Lq ρ1 S' H1 ρ2 S2 H2 → SqL X.K H2 q us := fun ρ2 S2 H2 l => SqL.of (l.keep q _ hq fun z => n z.mu)
    refine ⟨q, us, rfl, SqL.of hq, k ρ1 H1 _ l1 s1 (wk_pair walk_enum (by rw [enumL_len, r.length]) (fun ρ2 S2 H2 l _ => st ρ2 S2 H2 l) fun i ρ2 S2 H2 x y l s2 hi e1 e2 => ?_)⟩
    cases e1
    have r2 := r.move (l.move s1)
    rw [← r.length] at hi
    obtain ⟨u, g1, g2⟩ := r2.get (List.getElem?_eq_getElem hi)
    rw [e2] at g1
    cases g1
    refine ⟨.int (i : Nat), _, ?_, .int _, g2⟩
    rw [enumL_get xs 0 i _ (List.getElem?_eq_getElem hi), Int.zero_add]
theorem zipL_len : ∀ (xs ys : List PV), (zipL xs ys).length = min xs.length ys.length
  | [], ys => by simp [zipL]
  | x :: xs, [] => by simp [zipL]
  | x :: xs, y :: ys => by simp [zipL, zipL_len xs ys]
theorem zipL_get : ∀ (xs ys : List PV) (i : Nat) (x y : PV), xs[i]? = some x → ys[i]? = some y → (zipL xs ys)[i]? = some (.tup [x, y])
  | [], _, _, _, _, h, _ => by simp at h
  | _ :: _, [], _, _, _, _, h => by simp at h
  | a :: xs, b :: ys, 0, x, y, h, h2 => by
    simp at h h2
    subst h h2
    simp [zipL]
  | a :: xs, b :: ys, i + 1, x, y, h, h2 => by
    show (zipL xs ys)[i]? = _
    exact zipL_get xs ys i x y (by simpa using h) (by simpa using h2)
theorem gZip_inv {f g : R1} {items : List PV} {src : EV} (h : gZip f g S = some (items, src, S')) : ∃ x S1 y u v, f S = some (x, S1) ∧ g S1 = some (y, S') ∧ stor x = some u ∧ stor y = some v ∧ zipP u v = some items ∧ src = .v .non := by
  simp only [gZip] at h
  repeat' split at h
  all_goals first | (cases h; done) | (simp only [Option.some.injEq, Prod.mk.injEq] at h; obtain ⟨rfl, rfl, rfl⟩ := h; exact ⟨_, _, _, _, _, ‹_›, ‹_›, ‹_›, ‹_›, ‹_›, rfl⟩)
theorem okS_one {z : List Nat} (h : okS z) {c : Nat} (hc : c ∈ z) : okS [c] := ⟨fun d hd => by
  have : d = c := by simpa using hd
  rw [this]
  exact h.1 c hc, by show 1 ≤ line; decide⟩
theorem vrs_chars {K : Fg} {M : Ml} {H : Hp} {z : List Nat} (h : okS z) : ∀ {l : List Nat}, (∀ c ∈ l, c ∈ z) → VRs K M H (l.map fun c => PV.str [c]) (l.map fun c => V.str ⟨#[c]⟩)
  | [], _ => .nil
  | c :: l, hl => .cons (.str [c] (okS_one h (hl c (List.mem_cons_self ..)))) (vrs_chars h fun d hd => hl d (List.mem_cons_of_mem _ hd))
/-- a thing that zip takes -/
theorem zs_of {x : PV} {v : V} {xs : List PV} (hz : zipSeq x = some xs) (s : Sim K ρ S H) (r : VR K (Mu ρ S) H x v) : ∃ (z : ZG.Zs) (us : List V), v = z.v ∧ VRs K (Mu ρ S) H xs us ∧ ∀ ρ2 S2 H2, Lq ρ S H ρ2 S2 H2 → z.At K H2 us := by
  cases r with
  | @lst q _ us hq n r =>
    cases hz
    exact ⟨.l q, us, rfl, r, fun ρ2 S2 H2 l => SqL.of (l.keep _ _ hq fun z => n z.mu)⟩
  | @tup q _ us hq r =>
    cases hz
    exact ⟨.t q, us, rfl, r, fun ρ2 S2 H2 l => (l.move s).tup hq⟩
  | str z ok =>
    cases hz
    exact ⟨.s ⟨z.toArray⟩, z.map fun c => V.str ⟨#[c]⟩, rfl, vrs_chars ok fun _ h => h, fun ρ2 S2 H2 l => rfl⟩
  | _ => cases hz
theorem si_zip {elts : List Expr} {kk : Nat} {tpos : Pos} (hg : Gl X "zip") (hm : X.mg "zip" = none) (ha : SE X f a) (hb : SE X g b) (hs : starEach [a, b] X.env = (false, eval a X.env) :: starEach [b] X.env) (hs2 : starEach [b] X.env = (false, eval b X.env) :: starEach [] X.env) (hpl : (backTo pos (starEach [b] X.env)).any (·.1) = false) :
    SI X (fun E => gZip (f E) (g E)) (.Tuple elts kk tpos) (.Call (.Name "zip" p) [a, b] [] pos) := by
  refine weakI (ZG.pi_zipG hg hm (pa_cons ha (pa_cons hb pa_nil hs2) hs) hs hpl) fun σ H R ⟨ρ, E, S, items, src, S', hs, he, hf, k⟩ => ?_
  obtain ⟨x, S1, y, u, v, h1, h2, h3, h4, h5, rfl⟩ := gZip_inv hf
  refine ⟨ρ, E, S, x, S1, hs, he, h1, fun ρ1 x' H1 l1 s1 vx _ => ⟨ρ1, E, S1, y, S', s1, he.move hs l1, h2, fun ρ2 y' H2 l2 s2 vy _ => ?_⟩⟩
  have r1 := (vx.move s1 l2).stor h3
  have r2 := vy.stor h4
  have get : ∀ {xs ys : List PV} {us vs : List V}, items = zipL xs ys → VRs X.K (Mu ρ2 S') H2 xs us → VRs X.K (Mu ρ2 S') H2 ys vs → ∀ i ρ3 S3 H3 a b, Lq ρ2 S' H2 ρ3 S3 H3 → Sim X.K ρ3 S3 H3 → i < min us.length vs.length → us[i]? = some a → vs[i]? = some b →
      ∃ c d, items[i]? = some (.tup [c, d]) ∧ VR X.K (Mu ρ3 S3) H3 c a ∧ VR X.K (Mu ρ3 S3) H3 d b := fun {xs ys us vs} e q1 q2 i ρ3 S3 H3 a b l s3 hi e1 e2 => by
    have q1' := q1.move (l.move s2)
    have q2' := q2.move (l.move s2)
    rw [← q1.length, ← q2.length] at hi
    have i1 : i < xs.length := by omega
    have i2 : i < ys.length := by omega
    obtain ⟨u1, g1, g2⟩ := q1'.get (List.getElem?_eq_getElem i1)
    obtain ⟨u2, g3, g4⟩ := q2'.get (List.getElem?_eq_getElem i2)
    rw [e1] at g1
    cases g1
    rw [e2] at g3
    cases g3
    exact ⟨_, _, by rw [e]; exact zipL_get xs ys i _ _ (List.getElem?_eq_getElem i1) (List.getElem?_eq_getElem i2), g2, g4⟩
  unfold zipP at h5
  cases z1 : zipSeq u with
  | none => rw [z1] at h5; cases h5
  | some xs =>
    rw [z1] at h5
    cases z2 : zipSeq v with
    | none => simp only [z2] at h5; cases h5
    | some ys =>
      simp only [z2, Option.some.injEq] at h5
      obtain ⟨y1, us, rfl, q1, a1⟩ := zs_of z1 s2 r1
      obtain ⟨y2, vs, rfl, q2, a2⟩ := zs_of z2 s2 r2
      refine ⟨y1, y2, us, vs, rfl, a1 _ _ _ Le.refl.lq, a2 _ _ _ Le.refl.lq, k ρ2 H2 _ (l1.trans l2) s2 (wk_pair (ZG.walk_zipG rfl) (by rw [← h5, zipL_len, q1.length, q2.length]) (fun ρ3 S3 H3 l _ => ⟨a1 _ _ _ l, a2 _ _ _ l⟩) (get h5.symm q1 q2))⟩
end
end Py

set_option Elab.async false
set_option linter.all false
set_option maxRecDepth 100000
set_option maxHeartbeats 4000000
namespace Py
open PySem PySem.Spec PyProof.Rows L2
/-! ### comprehensions -/
/-- between two turns: the new list at D -/
structure Lc (K : Fg) (ρ1 : Rh) (L1 : Store) (H1 : Hp) (D : Addr) (step : PV → Store → Option (Option PV × Store)) (items : List PV) (ys : List PV) (S9 : Store) (i : Nat) (H : Hp) : Prop where
  ex : ∃ ρ2 S2 ys0 acc rest, ρ2.F = (fun p => ρ1.F p ∨ p = D) ∧ Sim K ρ2 S2 H ∧ Lq ρ1 L1 H1 ρ2 S2 H ∧ H D = some (.lst acc) ∧ VRs K (Mu ρ2 S2) H ys0 acc ∧ compL step (items.drop i) S2 = some (rest, S9) ∧ ys0 ++ rest = ys
section
variable {K : Fg} {ρ1 ρ2 ρ3 : Rh} {L1 S2 S3 S9 : Store} {H1 H H3 H4 : Hp} {D : Addr} {step : PV → Store → Option (Option PV × Store)} {items ys : List PV} {i : Nat}
theorem Lc.start (s : Sim K ρ1 L1 H1) (hD : H1 D = none) (e : compL step items L1 = some (ys, S9)) : Lc K ρ1 L1 H1 D step items ys S9 0 (upd H1 D (.lst [])) := by
  have ne : ∀ p o, H1 p = some o → p ≠ D := fun p o h => ne_of_none h hD
  have ca : ∀ a x, At L1 a x → ρ1 a ≠ D := fun a x h => by
    obtain ⟨o, q, _⟩ := (s.cell a x h).mut
    exact ne _ _ q
  have mv : Move (Mu ρ1 L1) H1 (Mu ⟨ρ1.at_, fun p => ρ1.F p ∨ p = D⟩ L1) (upd H1 D (.lst [])) := ⟨s.mutOk, fun p o h _ => by rw [upd_ne (ne p o h)]; exact h, fun p h => by
    rcases h with (h | h) | h
    · exact .inl (.inl h)
    · subst h; exact .inr hD
    · exact .inl (.inr h), fun _ _ h => h⟩
  refine ⟨⟨ρ1.at_, fun p => ρ1.F p ∨ p = D⟩, L1, [], [], ys, rfl, ⟨s.inj, fun p h => ?_, fun a x h => ?_, fun a x h => ?_⟩, ⟨fun p o h _ => by rw [upd_ne (ne p o h)]; exact h, fun p h => .inl h, mv.mu, fun _ _ h => h, fun _ _ => rfl, Nat.le_refl _, fun p h => ?_, fun a x h => .inl ⟨at_lt h, x, h⟩⟩, upd_same, .nil, e, rfl⟩
  · rcases h with h | h
    · obtain ⟨o, q, m⟩ := s.fok p h
      exact ⟨o, by rw [upd_ne (ne p o q)]; exact q, m⟩
    · subst h; exact ⟨_, upd_same, trivial⟩
  · rintro (z | z)
    · exact s.dis a x h z
    · exact ca a x h z
  · exact (s.cell a x h).move mv fun o q => by rw [upd_ne (ca a x h)]; exact q
  · by_cases q : p = D
    · subst q; exact hD
    · rw [upd_ne q] at h; exact h
/-- D is a cell of those that called -/
theorem dF (f : ρ2.F = fun p => ρ1.F p ∨ p = D) : ρ2.F D := by rw [f]; exact .inr rfl
theorem dLv (f : ρ2.F D) (s : Sim K ρ2 S2 H) : ¬ Lv ρ2 S2 D := fun ⟨a, x, e, r⟩ => s.dis a x ⟨_, e, rfl⟩ (by rw [r]; exact f)
/-- an item is put behind -/
theorem Lc.push {z : PV} {v : V} {ys0 : List PV} {acc : List V} {rest : List PV} (f : ρ2.F = fun p => ρ1.F p ∨ p = D) (s2 : Sim K ρ2 S2 H) (l : Lq ρ1 L1 H1 ρ2 S2 H) (hD1 : H1 D = none) (hD : H D = some (.lst acc)) (r : VRs K (Mu ρ2 S2) H ys0 acc)
    (l3 : Le ρ2 S2 H ρ3 S3 H4) (s3 : Sim K ρ3 S3 H4) (hz : VR K (Mu ρ3 S3) H4 z v) (e : compL step (items.drop (i + 1)) S3 = some (rest, S9)) (ey : ys0 ++ z :: rest = ys) (hl : ys.length ≤ line) :
    ∃ acc, H4 D = some (.lst acc) ∧ acc.length < sizeLine ∧ Lc K ρ1 L1 H1 D step items ys S9 (i + 1) (upd H4 D (.lst (acc ++ [v]))) := by
  have f3 : ρ3.F = fun p => ρ1.F p ∨ p = D := l3.fr.trans f
  have hD4 : H4 D = some (.lst acc) := l3.keep D _ hD (dLv (dF f) s2)
  have ca : ∀ a x, At S3 a x → ρ3 a ≠ D := fun a x h q => s3.dis a x h (by rw [q]; exact dF f3)
  have mv : Move (Mu ρ3 S3) H4 (Mu ρ3 S3) (upd H4 D (.lst (acc ++ [v]))) := ⟨s3.mutOk, fun p o h n => by
    rw [upd_ne (fun q => n (.inl (by rw [q]; exact dF f3)))]; exact h, fun p h => .inl h, fun _ _ h => h⟩
  refine ⟨acc, hD4, ?_, ρ3, S3, ys0 ++ [z], acc ++ [v], rest, f3, ⟨s3.inj, fun p h => ?_, s3.dis, fun a x h => (s3.cell a x h).move mv fun o q => by rw [upd_ne (ca a x h)]; exact q⟩, ⟨fun p o h n => ?_, ?_, ?_, ?_, ?_, ?_, fun p h => ?_, (l.trans l3.lq).new⟩, upd_same, ?_, e, ?_⟩
  · rw [← r.length, ← line_eq]
    rw [← ey, List.length_append, List.length_cons] at hl
    omega
  · by_cases q : p = D
    · subst q; exact ⟨_, upd_same, trivial⟩
    · obtain ⟨o, h1, h2⟩ := s3.fok p h
      exact ⟨o, by rw [upd_ne q]; exact h1, h2⟩
  · rw [upd_ne (ne_of_none h hD1)]
    exact (l.trans l3.lq).keep p o h n
  · exact (l.trans l3.lq).lv
  · exact (l.trans l3.lq).mu
  · exact (l.trans l3.lq).lk
  · exact (l.trans l3.lq).eq
  · exact (l.trans l3.lq).len
  · by_cases q : p = D
    · subst q; exact hD1
    · rw [upd_ne q] at h
      exact (l.trans l3.lq).dom p h
  · exact ((r.move (l3.move s2)).move mv).append (.one (hz.move mv))
  · rw [List.append_assoc]; exact ey
end
theorem gComp_inv {S S' : Store} {f : RI} {step : PV → Store → Option (Option PV × Store)} {v : EV} (h : gComp f step S = some (v, S')) : ∃ items src S1 ys S9, f S = some (items, src, S1) ∧ compL step items (lock S1 src) = some (ys, S9) ∧ ys.length ≤ line ∧ v = .n (.lst ys) ∧ S' = unlock S9 S1 src := by
  simp only [gComp] at h
  repeat' split at h
  all_goals first | (cases h; done) | (simp only [Option.some.injEq, Prod.mk.injEq] at h; obtain ⟨rfl, rfl⟩ := h; exact ⟨_, _, _, _, _, ‹_›, ‹_›, Nat.le_of_ble_eq_true ‹_›, rfl, rfl⟩)
theorem compL_cons {step : PV → Store → Option (Option PV × Store)} {x : PV} {xs ys : List PV} {S S9 : Store} (h : compL step (x :: xs) S = some (ys, S9)) : ∃ o S1 zs, step x S = some (o, S1) ∧ compL step xs S1 = some (zs, S9) ∧ ys = (match o with | some y => y :: zs | none => zs) := by
  simp only [compL] at h
  repeat' split at h
  all_goals first | (cases h; done) | (simp only [Option.some.injEq, Prod.mk.injEq] at h; obtain ⟨h1, rfl⟩ := h; subst h1; exact ⟨_, _, _, ‹_›, ‹_›, rfl⟩)
theorem gKeep_inv {S S' : Store} {f : R1} {o : Option PV} (h : gKeep f S = some (o, S')) : ∃ y z, f S = some (y, S') ∧ stor y = some z ∧ o = some z := by
  simp only [gKeep] at h
  repeat' split at h
  all_goals first | (cases h; done) | (simp only [Option.some.injEq, Prod.mk.injEq] at h; obtain ⟨rfl, rfl⟩ := h; exact ⟨_, _, ‹_›, ‹_›, rfl⟩)
theorem gStep0_inv {S S' : Store} {E : Env} {own : List Nat} {t : Tg} {elt : RE} {x : PV} {o : Option PV} (h : gStep E own t none elt x S = some (o, S')) : ∃ E1 y z, asg t x (Py.wipe E own) = some E1 ∧ elt E1 S = some (y, S') ∧ stor y = some z ∧ o = some z := by
  simp only [gStep] at h
  split at h
  · obtain ⟨y, z, h1, h2, h3⟩ := gKeep_inv h
    exact ⟨_, y, z, ‹_›, h1, h2, h3⟩
  · cases h
theorem gStep1_inv {S S' : Store} {E : Env} {own : List Nat} {t : Tg} {c elt : RE} {x : PV} {o : Option PV} (h : gStep E own t (some c) elt x S = some (o, S')) : ∃ E1 u S3 p, asg t x (Py.wipe E own) = some E1 ∧ c E1 S = some (u, S3) ∧ rdT S3 u = some p ∧
    ((truth p = true ∧ ∃ y z, elt E1 S3 = some (y, S') ∧ stor y = some z ∧ o = some z) ∨ (truth p = false ∧ o = none ∧ S' = S3)) := by
  simp only [gStep] at h
  repeat' split at h
  all_goals first | (cases h; done) | skip
  · obtain ⟨y, z, h1, h2, h3⟩ := gKeep_inv h
    exact ⟨_, _, _, _, ‹_›, ‹_›, ‹_›, .inl ⟨‹_›, y, z, h1, h2, h3⟩⟩
  · simp only [Option.some.injEq, Prod.mk.injEq] at h
    obtain ⟨rfl, rfl⟩ := h
    exact ⟨_, _, _, _, ‹_›, ‹_›, ‹_›, .inr ⟨‹_›, rfl, rfl⟩⟩
theorem wipe_get (σ : L2.St) (i : Nat) : ∀ vs : List Nat, (L2.wipe σ vs)[i]? = if i ∈ vs then (σ[i]?).map (fun _ => Option.none) else σ[i]?
  | [] => by simp [L2.wipe]
  | v :: vs => by
    show ((L2.wipe σ vs).set v Option.none)[i]? = _
    by_cases e : v = i
    · subst e
      rw [List.getElem?_set, if_pos rfl, if_pos List.mem_cons_self]
      by_cases h : v < σ.length
      · rw [if_pos (by rw [L2.wipe_length]; exact h), List.getElem?_eq_getElem h]
        rfl
      · rw [if_neg (by rw [L2.wipe_length]; exact h), List.getElem?_eq_none (by omega)]
        rfl
    · rw [List.getElem?_set_ne e, wipe_get σ i vs]
      by_cases m : i ∈ vs
      · rw [if_pos m, if_pos (List.mem_cons_of_mem _ m)]
      · rw [if_neg m, if_neg]
        intro z
        rcases List.mem_cons.mp z with z | z
        · exact e z.symm
        · exact m z
theorem wipe_wipe (own : List Nat) (σ : L2.St) : L2.wipe (L2.wipe σ own) own = L2.wipe σ own := by
  apply List.ext_getElem?
  intro i
  rw [wipe_get, wipe_get]
  by_cases m : i ∈ own
  · rw [if_pos m, if_pos m]
    cases σ[i]? <;> rfl
  · rw [if_neg m]
def ttOf (K : Fg) : Option RE → TT
  | none => tYes
  | some c => tT K c
/-- the reading of a comprehension -/
theorem lc_read {K : Fg} {fI : Env → RI} {t : Tg} {cond : Option RE} {elt : RE} {own : List Nat} (hown : ∀ i ∈ slots t, i ∈ own) {σ : L2.St} {H : Hp} {Q : VK} (h : tE K (fun E => gComp (fI E) (gStep E own t cond elt)) σ H Q) :
    tLc (tI K fI) (tG K t) (ttOf K cond) (tE K elt) own σ H Q := by
  obtain ⟨ρ, E, S, v, S', hs, he, hf, k⟩ := h
  obtain ⟨items, src, S1, ys, S9, h1, h2, h3, rfl, rfl⟩ := gComp_inv hf
  refine ⟨ρ, E, S, items, src, S1, hs, he, h1, fun ρ1 H1 J l1 s1 wk D hD => ?_⟩
  obtain ⟨G, Y, W, hG, hY⟩ := wk.ex
  have sL := lockSim src s1
  refine lc_it W (Lc K ρ1 (lock S1 src) H1 D (gStep E own t cond elt) items ys S9) (.start sL hD h2) (fun i H2 _ p => ?_) (fun i x H2 H3 hi p y => ?_) fun H2 p => ?_
  · obtain ⟨ρ2, S2, ys0, acc, rest, f, s2, l2, hD2, r, e, ey⟩ := p.ex
    exact hG ρ2 S2 H2 l2 s2
  · obtain ⟨ρ2, S2, ys0, acc, rest, f, s2, l2, hD2, r, e, ey⟩ := p.ex
    obtain ⟨sm, z, hz, rz⟩ := hY i ρ2 S2 H2 x H3 l2 s2 hi y
    have dr : items.drop i = z :: items.drop (i + 1) := by
      have := List.drop_eq_getElem_cons hi
      rw [this]
      congr 1
      rw [List.getElem?_eq_getElem hi] at hz
      exact Option.some.inj hz
    rw [dr] at e
    obtain ⟨o, S3, zs, e1, e2, e3⟩ := compL_cons e
    have s2' := s2.same sm
    have l2' : Lq ρ1 (lock S1 src) H1 ρ2 S2 H3 := l2.trans (Le.same sm).lq
    have hD3 := sm _ _ hD2
    have r' := r.move (.same s2.mutOk sm)
    have er : ER K ρ2 S2 H3 (Py.wipe E own) (L2.wipe σ own) := (((he.move hs l1).moveq s1 ((lockLe src).lq.trans l2')).wipe own)
    cases cond with
    | none =>
      obtain ⟨E1, u, w, g1, g2, g3, rfl⟩ := gStep0_inv e1
      refine ⟨ρ2, _, S2, z, E1, er, rz, g1, fun σ2 er2 hw => ⟨by rw [hw own hown]; exact wipe_wipe own σ, iteT (B := Lc K ρ1 (lock S1 src) H1 D (gStep E own t none elt) items ys S9 (i + 1) H3) ⟨ρ2, E1, S2, u, S3, s2', er2, g2, fun ρ3 v3 H4 l3 s3 ve _ => ?_⟩⟩⟩
      exact Lc.push f s2' l2' hD hD3 r' l3 s3 (ve.stor g3) e2 (by rw [e3] at ey; exact ey) h3
    | some c =>
      obtain ⟨E1, u, S4, p, g1, g2, g3, g4⟩ := gStep1_inv e1
      refine ⟨ρ2, _, S2, z, E1, er, rz, g1, fun σ2 er2 hw => ⟨by rw [hw own hown]; exact wipe_wipe own σ, ρ2, E1, S2, u, S4, p, s2', er2, g2, g3, fun ρ3 H4 l3 s3 => ?_⟩⟩
      rcases g4 with ⟨tp, y4, w, q1, q2, rfl⟩ | ⟨tp, rfl, rfl⟩
      · rw [tp]
        refine iteT ⟨ρ3, E1, S4, y4, S3, s3, er2.move s2' l3, q1, fun ρ4 v3 H5 l4 s4 ve _ => ?_⟩
        have f3 : ρ3.F = fun p => ρ1.F p ∨ p = D := l3.fr.trans f
        exact Lc.push f3 s3 (l2'.trans l3.lq) hD (l3.keep D _ hD3 (dLv (dF f) s2')) (r'.move (l3.move s2')) l4 s4 (ve.stor q2) e2 (by rw [e3] at ey; exact ey) h3
      · rw [tp]
        refine iteF ⟨ρ3, S3, ys0, acc, rest, l3.fr.trans f, s3, l2'.trans l3.lq, l3.keep D _ hD3 (dLv (dF f) s2'), r'.move (l3.move s2'), by rw [e3]; exact e2, ey⟩
  · obtain ⟨ρ2, S2, ys0, acc, rest, f, s2, l2, hD2, r, e, ey⟩ := p.ex
    rw [List.drop_length] at e
    simp only [compL, Option.some.injEq, Prod.mk.injEq] at e
    obtain ⟨rfl, rfl⟩ := e
    rw [List.append_nil] at ey
    subst ey
    -- D is the def's own from here on
    have lq : Lq ρ1 S1 H1 ρ2 (unlock S2 S1 src) H2 := unlockLq l2
    have sU := unlockSim s1 l2 s2
    have sub : ∀ p, Mu ⟨ρ2.at_, ρ1.F⟩ (unlock S2 S1 src) 0 p → Mu ρ2 (unlock S2 S1 src) 0 p := fun p z => by
      rcases z with z | z
      · exact .inl (by rw [f]; exact .inl z)
      · exact .inr z
    have mv : Move (Mu ρ2 (unlock S2 S1 src)) H2 (Mu ⟨ρ2.at_, ρ1.F⟩ (unlock S2 S1 src)) H2 := ⟨sU.mutOk, fun _ _ h _ => h, fun p z => .inl (sub p z), fun _ _ h => h⟩
    have s9 : Sim K ⟨ρ2.at_, ρ1.F⟩ (unlock S2 S1 src) H2 := ⟨sU.inj, fun p h => sU.fok p (by rw [f]; exact .inl h), fun a x h z => sU.dis a x h (by rw [f]; exact .inl z), fun a x h => (sU.cell a x h).move mv fun _ q => q⟩
    have l9 : Le ρ S H ⟨ρ2.at_, ρ1.F⟩ (unlock S2 S1 src) H2 := l1.trans ⟨rfl, lq.keep, lq.lv, fun p z => lq.mu p (sub p z), lq.lk, lq.eq, lq.len, lq.dom, lq.new⟩
    have nD : ¬ Mu ⟨ρ2.at_, ρ1.F⟩ (unlock S2 S1 src) 0 D := fun z => by
      rcases z with z | ⟨a, x, h, q⟩
      · obtain ⟨o, q, _⟩ := s1.fok D z
        rw [hD] at q; cases q
      · exact sU.dis a x h (by rw [show ρ2 a = D from q]; exact dF f)
    have rr : VRs K (Mu ρ2 (unlock S2 S1 src)) H2 ys0 acc := r.move ⟨s2.mutOk, fun _ _ h _ => h, fun p z => .inl ?_, fun a p h => by
      refine ⟨?_, h.2⟩
      rcases lock_cases S1 src with ⟨_, e3⟩ | ⟨_, _, _, _, _, e5⟩
      · rw [e3]; exact h.1
      · rw [e5, List.length_set]; exact h.1⟩
    · refine k ⟨ρ2.at_, ρ1.F⟩ (.ref D) H2 l9 s9 (.lst hD2 nD (rr.move mv)) fun p e => ?_
      cases e
      exact ⟨l1.dom D hD, fun _ => by
        have : (⟨ρ2.at_, ρ1.F⟩ : Rh).plus D = ρ2 := by
          show (⟨ρ2.at_, fun p => ρ1.F p ∨ p = D⟩ : Rh) = ρ2
          rw [← f]
        rw [this]
        exact ⟨sU, .lst hD2 rr⟩⟩
    · rcases z with z | ⟨a, x, h, q⟩
      · exact .inl z
      · rcases lock_cases S1 src with ⟨_, e3⟩ | ⟨a', x', _, e3, e4, e5⟩
        · rw [e3] at h; exact .inr ⟨a, x, h, q⟩
        · rw [e5] at h
          have ha : a' < S1.length := (List.getElem?_eq_some_iff.mp e3).1
          have q2 : S2[a']? = some (.lock x') := l2.lk a' x' (by rw [e4, List.getElem?_set_self ha])
          exact .inr ⟨a, x, (at_mark q2 rfl rfl _ _).mp h, q⟩
end Py

set_option Elab.async false
set_option linter.all false
set_option maxRecDepth 100000
set_option maxHeartbeats 4000000
namespace Py
open PySem PySem.Spec PyProof.Rows L2
/-! ### a new cell -/
section
variable {K : Fg} {ρ ρ1 : Rh} {S S1 : Store} {H H1 : Hp}
theorem at_app {S : Store} {x y : PV} {a : Nat} (h : At (S ++ [.live x]) a y) : At S a y ∨ (a = S.length ∧ y = x) := by
  obtain ⟨c, e, q⟩ := h
  by_cases l : a < S.length
  · rw [List.getElem?_append_left l] at e
    exact .inl ⟨c, e, q⟩
  · rw [List.getElem?_append_right (by omega)] at e
    by_cases l2 : a - S.length = 0
    · rw [l2] at e
      cases e
      cases q
      exact .inr ⟨by omega, rfl⟩
    · rw [List.getElem?_eq_none (by simp; omega)] at e
      cases e
theorem adopt {x : PV} {v : V} (l : Le ρ S H ρ1 S1 H1) (s1 : Sim K ρ1 S1 H1) (nw : New K ρ1 S1 H1 H (.n x) v) (ve : VR K (Mu ρ1 S1) H1 x v) (c : isCon x = true) :
    ∃ ρ2, Le ρ S H ρ2 (S1 ++ [.live x]) H1 ∧ Sim K ρ2 (S1 ++ [.live x]) H1 ∧ v = .ref (ρ2 S1.length) := by
  obtain ⟨p, rfl, cv, np⟩ := ve.cv c
  obtain ⟨hp, nw⟩ := nw p rfl
  obtain ⟨sp, cvp⟩ := nw c
  let ρ2 : Rh := ⟨fun a => if a = S1.length then p else ρ1 a, ρ1.F⟩
  have old : ∀ a, a < S1.length → ρ2 a = ρ1 a := fun a h => if_neg (Nat.ne_of_lt h)
  have new : ρ2 S1.length = p := if_pos rfl
  have ad : ∀ a q, Mu (ρ1.plus p) S1 (a + 1) q → Mu ρ2 (S1 ++ [.live x]) (a + 1) q := fun a q ⟨h1, h2⟩ => ⟨by rw [List.length_append]; exact Nat.lt_of_lt_of_le h1 (Nat.le_add_right _ _), (old a h1).trans h2⟩
  have mu : ∀ q, Mu ρ2 (S1 ++ [.live x]) 0 q → Mu (ρ1.plus p) S1 0 q := fun q z => by
    rcases z with z | ⟨a, y, h, r⟩
    · exact .inl (.inl z)
    · rcases at_app h with h | ⟨rfl, rfl⟩
      · exact .inr ⟨a, y, h, by rw [← r]; exact (old a (at_lt h)).symm⟩
      · exact .inl (.inr (r.symm.trans new))
  refine ⟨ρ2, ⟨l.fr, l.keep, fun q z => ?_, fun q z => ?_, fun a y h => ?_, fun a h => ?_, ?_, l.dom, fun a y h => ?_⟩, ⟨fun a b y z h1 h2 e => ?_, s1.fok, fun a y h => ?_, fun a y h => ?_⟩, congrArg _ new.symm⟩
  · obtain ⟨a, y, h, r⟩ := z
    by_cases la : a < S1.length
    · rw [List.getElem?_append_left la] at h
      exact l.lv q ⟨a, y, h, by rw [← r]; exact (old a la).symm⟩
    · rcases at_app ⟨_, h, rfl⟩ with h2 | ⟨rfl, _⟩
      · exact absurd (at_lt h2) la
      · exact .inr (by rw [← r, new]; exact hp)
  · rcases mu q z with (z | z) | z
    · exact l.mu q (.inl z)
    · subst z; exact .inr hp
    · exact l.mu q (.inr z)
  · have := l.lk a y h
    rw [List.getElem?_append_left (List.getElem?_eq_some_iff.mp this).1]
    exact this
  · rw [old a (Nat.lt_of_lt_of_le h l.len)]
    exact l.eq a h
  · rw [List.length_append]
    exact Nat.le_trans l.len (Nat.le_add_right _ _)
  · rcases at_app h with g | ⟨rfl, rfl⟩
    · rw [old a (at_lt g)]
      exact l.new a y g
    · rw [new]
      exact .inr ⟨l.len, hp⟩
  · rcases at_app h1 with g1 | ⟨e1, _⟩ <;> rcases at_app h2 with g2 | ⟨e2, _⟩
    · rw [old a (at_lt g1), old b (at_lt g2)] at e
      exact s1.inj a b y z g1 g2 e
    · rw [old a (at_lt g1), e2, new] at e
      exact absurd (show (ρ1.plus p).F (ρ1 a) from .inr e) (sp.dis a y g1)
    · rw [old b (at_lt g2), e1, new] at e
      exact absurd (show (ρ1.plus p).F (ρ1 b) from .inr e.symm) (sp.dis b z g2)
    · omega
  · rcases at_app h with g | ⟨e1, _⟩
    · rw [old a (at_lt g)]
      exact s1.dis a y g
    · rw [e1, new]
      exact fun z => np (.inl z)
  · rcases at_app h with g | ⟨rfl, rfl⟩
    · rw [old a (at_lt g)]
      exact (sp.cell a y g).sub sp.mutOk mu ad
    · rw [new]
      exact cvp.sub sp.mutOk mu ad
theorem gMk_inv {S S' : Store} {f : R1} {v : EV} (h : gMk f S = some (v, S')) : ∃ p S1, f S = some (.n p, S1) ∧ isCon p = true ∧ v = .r S1.length ∧ S' = S1 ++ [.live p] := by
  simp only [gMk] at h
  repeat' split at h
  all_goals first | (cases h; done) | (simp only [Option.some.injEq, Prod.mk.injEq] at h; obtain ⟨rfl, rfl⟩ := h; exact ⟨_, _, ‹_›, ‹_›, rfl, rfl⟩)
/-- a cell is written -/
theorem write {a : Nat} {c0 c1 : PV} {o : HO} (s : Sim K ρ S H) (e : S[a]? = some (.live c0)) (mo : Mut (some o)) (hc : ∀ M' H', Move (Mu ρ S) H M' H' → H' (ρ a) = some o → CV K M' H' (ρ a) c1) :
    Sim K ρ (S.set a (.live c1)) (upd H (ρ a) o) ∧ Le ρ S H ρ (S.set a (.live c1)) (upd H (ρ a) o) := by
  have ha : a < S.length := (List.getElem?_eq_some_iff.mp e).1
  have at0 : At S a c0 := ⟨_, e, rfl⟩
  have ate : ∀ b y, At (S.set a (.live c1)) b y → (b = a ∧ y = c1) ∨ (b ≠ a ∧ At S b y) := fun b y h => by
    rcases set_at h with ⟨q, r⟩ | q
    · cases r; exact .inl ⟨q, rfl⟩
    · exact .inr q
  have mu : ∀ p, Mu ρ (S.set a (.live c1)) 0 p → Mu ρ S 0 p := fun p z => by
    rcases z with z | ⟨b, y, h, r⟩
    · exact .inl z
    · rcases ate b y h with ⟨rfl, _⟩ | ⟨_, h⟩
      · exact .inr ⟨b, c0, at0, r⟩
      · exact .inr ⟨b, y, h, r⟩
  have mv : Move (Mu ρ S) H (Mu ρ (S.set a (.live c1))) (upd H (ρ a) o) := ⟨s.mutOk, fun p q h n => by
    rw [upd_ne (fun z => n (.inr ⟨a, c0, at0, z.symm⟩))]; exact h, fun p h => .inl (mu p h), fun b p h => ⟨by rw [List.length_set]; exact h.1, h.2⟩⟩
  refine ⟨⟨fun b d y z h1 h2 r => ?_, fun p h => ?_, fun b y h => ?_, fun b y h => ?_⟩, ⟨rfl, fun p q h n => ?_, fun p h => .inl ?_, fun p h => .inl (mu p h), fun b y h => ?_, fun _ _ => rfl, by simp, fun p h => ?_, fun b y h => .inl (by
    rcases ate b y h with ⟨rfl, _⟩ | ⟨_, g⟩
    · exact ⟨ha, c0, at0⟩
    · exact ⟨at_lt g, y, g⟩)⟩⟩
  · rcases ate b y h1 with ⟨rfl, _⟩ | ⟨_, g1⟩ <;> rcases ate d z h2 with ⟨rfl, _⟩ | ⟨_, g2⟩
    · rfl
    · exact s.inj _ _ _ _ at0 g2 r
    · exact s.inj _ _ _ _ g1 at0 r
    · exact s.inj _ _ _ _ g1 g2 r
  · obtain ⟨q, h1, h2⟩ := s.fok p h
    have : p ≠ ρ a := fun z => s.dis a c0 at0 (z ▸ h)
    exact ⟨q, by rw [upd_ne this]; exact h1, h2⟩
  · rcases ate b y h with ⟨rfl, _⟩ | ⟨_, g⟩
    · exact s.dis b c0 at0
    · exact s.dis b y g
  · rcases ate b y h with ⟨rfl, rfl⟩ | ⟨ne, g⟩
    · exact hc _ _ mv upd_same
    · exact (s.cell b y g).move mv fun q h => by rw [upd_ne (fun z => ne (s.inj b a y c0 g at0 z))]; exact h
  · rw [upd_ne (fun z => n ⟨a, c0, e, z.symm⟩)]; exact h
  · rcases set_lv h with ⟨y, _, r⟩ | h
    · exact ⟨a, c0, e, r⟩
    · exact h
  · have : a ≠ b := fun z => by subst z; rw [e] at h; cases h
    rw [List.getElem?_set_ne this]
    exact h
  · by_cases z : p = ρ a
    · subst z
      rw [upd_same] at h; cases h
    · rw [upd_ne z] at h; exact h
end
section
variable {X : Cx} {f g h c : RE} {a b e : Expr} {pos : Pos}
theorem se_mk (ha : SE X f a) : SE X (fun E => gMk (f E)) a :=
  weakE ha fun σ H Q ⟨ρ, E, S, v, S', hs, he, hf, k⟩ => by
    obtain ⟨p, S1, h1, h2, rfl, rfl⟩ := gMk_inv hf
    refine ⟨ρ, E, S, _, S1, hs, he, h1, fun ρ1 v' H1 l1 s1 vx nx => ?_⟩
    obtain ⟨ρ2, l2, s2, e2⟩ := adopt l1 s1 nx vx h2
    exact k ρ2 v' H1 l2 s2 ⟨e2, by simp⟩ trivial
theorem se_comp {fI : Env → RI} {t : Tg} {cond : Option RE} {elt : RE} {eE tg iter : Expr} {ifs : List Expr} {scope : Scope} {own : List (Str × Nat)} (hc : X.calm = true) (hN : X.N.Nodup) (hown : ∀ i ∈ slots t, i ∈ own.map (·.2)) (hi : SI X fI tg iter) (ok : BlkOk X.N X.env.scope scope own)
    (hg : ∀ (s : Shared) (H : Hp) (C : Addr) (cl : List (Str × Addr)) (fp : List Addr), SG (X.blk s H scope (compEnvC scope cl C X.env) fp) t tg)
    (ht : ∀ (s : Shared) (H : Hp) (C : Addr) (cl : List (Str × Addr)) (fp : List Addr), PTs (X.blk s H scope (compEnvC scope cl C X.env) fp) ifs (ttOf X.K cond))
    (he : ∀ (s : Shared) (H : Hp) (C : Addr) (cl : List (Str × Addr)) (fp : List Addr), SE (X.blk s H scope (compEnvC scope cl C X.env) fp) elt eE) (hs : ∀ x, foldedSetIterable iter X.env x = pure x) :
    SE X (fun E => gComp (fI E) (gStep E (own.map (·.2)) t cond elt)) (.ListComp eE [⟨tg, iter, ifs, 0⟩] scope pos) :=
  weakE (pe_lc hc hN hi ok hg ht he hs) fun σ H Q h => lc_read hown h
end
/-! ### statements -/
abbrev XW := Nat → Hp → Prop
structure Od (K : Fg) (Wc : XW) (ρ' : Rh) (S' : Store) (H' H : Hp) (E' : Env) (fl : Fl) (D : Ends) : Prop where
  nx : fl = .next → ∀ σ', ER K ρ' S' H' E' σ' → D.nx σ' H'
  bk : fl = .brk → ∀ σ', ER K ρ' S' H' E' σ' → D.bk σ' H'
  ct : fl = .cont → ∀ σ', ER K ρ' S' H' E' σ' → D.ct σ' H'
  rt : ∀ v, fl = .ret v → ∀ v', VE K ρ' S' H' v v' → New K ρ' S' H' H v v' → D.rt v' H'
  xc : ∀ c, fl = .exc c → Wc c H'
def tS (K : Fg) (Wc : XW) (f : RS) : TS := fun D σ H => ∃ ρ E S fl E' S', Sim K ρ S H ∧ ER K ρ S H E σ ∧ f E S = some (fl, E', S') ∧ ∀ ρ' H', Le ρ S H ρ' S' H' → Sim K ρ' S' H' → Od K Wc ρ' S' H' H E' fl D
abbrev SS (X : Cx) (Wc : XW) (f : RS) (s : Stmt) : Prop := PS X s (tS X.K Wc f)
abbrev SSs (X : Cx) (Wc : XW) (f : RS) (s : List Stmt) : Prop := PSs X s (tS X.K Wc f)
section
variable {K : Fg} {Wc : XW} {ρ ρ' ρ1 : Rh} {S S' S1 : Store} {H H' H1 : Hp} {E' : Env} {fl : Fl} {D : Ends}
theorem Od.le (o : Od K Wc ρ' S' H' H E' fl D) (l : Le ρ S H ρ1 S1 H1) : Od K Wc ρ' S' H' H1 E' fl D := ⟨o.nx, o.bk, o.ct, fun v e v' ve nw => o.rt v e v' ve (nw.le l), o.xc⟩
end
section
variable {X : Cx} {Wc : XW} {f g : RS} {fe ge : RE} {st : Stmt} {rest : List Stmt} {e : Expr} {pos : Pos}
theorem weakS {t t' : TS} (h : PS X st t) (w : ∀ D σ H, t' D σ H → t D σ H) : PS X st t' := ⟨fun pins s σ H D I q => h.run pins s σ H D I (w _ _ _ q)⟩
theorem weakSs {t t' : TS} (h : PSs X rest t) (w : ∀ D σ H, t' D σ H → t D σ H) : PSs X rest t' := ⟨fun pins s σ H D I q => h.run pins s σ H D I (w _ _ _ q)⟩
theorem sss_nil : SSs X Wc hNil [] := weakSs pss_nil fun D σ H ⟨ρ, E, S, fl, E', S', hs, he, hf, k⟩ => by
  simp only [hNil, Option.some.injEq, Prod.mk.injEq] at hf
  obtain ⟨rfl, rfl, rfl⟩ := hf
  exact (k ρ H .refl hs).nx rfl σ he
theorem hCons_inv {E E' : Env} {S S' : Store} {fl : Fl} (h : hCons f g E S = some (fl, E', S')) : ∃ fl1 E1 S1, f E S = some (fl1, E1, S1) ∧ ((fl1 = .next ∧ g E1 S1 = some (fl, E', S')) ∨ (fl1 ≠ .next ∧ fl = fl1 ∧ E' = E1 ∧ S' = S1)) := by
  simp only [hCons] at h
  repeat' split at h
  all_goals first | (cases h; done) | skip
  · exact ⟨_, _, _, ‹_›, .inl ⟨rfl, h⟩⟩
  all_goals
    simp only [Option.some.injEq, Prod.mk.injEq] at h
    obtain ⟨rfl, rfl, rfl⟩ := h
    exact ⟨_, _, _, ‹_›, .inr ⟨by simp, rfl, rfl, rfl⟩⟩
theorem sss_cons (h1 : SS X Wc f st) (h2 : SSs X Wc g rest) : SSs X Wc (hCons f g) (st :: rest) := weakSs (pss_cons h1 h2) fun D σ H ⟨ρ, E, S, fl, E', S', hs, he, hf, k⟩ => by
  obtain ⟨fl1, E1, S1, e1, e2⟩ := hCons_inv hf
  refine ⟨ρ, E, S, fl1, E1, S1, hs, he, e1, fun ρ1 H1 l1 s1 => ?_⟩
  rcases e2 with ⟨rfl, e2⟩ | ⟨ne, rfl, rfl, rfl⟩
  · exact ⟨fun _ σ1 er1 => ⟨ρ1, E1, S1, fl, E', S', s1, er1, e2, fun ρ2 H2 l2 s2 => (k ρ2 H2 (l1.trans l2) s2).le l1⟩, fun e => (nomatch e), fun e => (nomatch e), fun v e => (nomatch e), fun c e => (nomatch e)⟩
  · have o := k ρ1 H1 l1 s1
    exact ⟨fun e => absurd e ne, o.bk, o.ct, o.rt, o.xc⟩
theorem ss_expr (he : SE X fe e) (hs : swapsWith e none pos.line X.env = pure false) : SS X Wc (hExpr fe) (.Expr e pos) := weakS (ps_expr he hs) fun D σ H ⟨ρ, E, S, fl, E', S', hs, he, hf, k⟩ => by
  simp only [hExpr] at hf
  split at hf
  · rename_i v S1 hv
    simp only [Option.some.injEq, Prod.mk.injEq] at hf
    obtain ⟨rfl, rfl, rfl⟩ := hf
    exact ⟨ρ, E, S, v, S1, hs, he, hv, fun ρ1 v' H1 l1 s1 _ _ => (k ρ1 H1 l1 s1).nx rfl σ (he.move hs l1)⟩
  · cases hf
theorem VE.toE {K : Fg} {ρ : Rh} {S : Store} {H : Hp} : ∀ {x : EV} {v : V}, VE K ρ S H x v → VS K ρ S H (toE x) v
  | .v _, _, h => h
  | .n _, _, h => h
  | .r _, _, h => h
theorem hSet_inv {i : Nat} {E E' : Env} {S S' : Store} {fl : Fl} (h : hSet i fe E S = some (fl, E', S')) : ∃ v, fe E S = some (v, S') ∧ fl = .next ∧ E' = E.set i (some (toE v)) := by
  simp only [hSet] at h
  split at h
  · simp only [Option.some.injEq, Prod.mk.injEq] at h
    obtain ⟨rfl, rfl, rfl⟩ := h
    exact ⟨_, ‹_›, rfl, rfl⟩
  · cases h
theorem set_w {i : Nat} {D : Ends} {σ : L2.St} {H : Hp} {te : TE} (w : ∀ Q, tE X.K fe σ H Q → te σ H Q) : tS X.K Wc (hSet i fe) D σ H → tAsg te (gName i) D σ H := fun ⟨ρ, E, S, fl, E', S', hs, he, hf, k⟩ => by
  obtain ⟨v, h1, rfl, rfl⟩ := hSet_inv hf
  exact w _ ⟨ρ, E, S, v, S', hs, he, h1, fun ρ1 v' H1 l1 s1 ve _ => (k ρ1 H1 l1 s1).nx rfl _ ((he.move hs l1).set ve.toE)⟩
theorem ss_set {i : Nat} {x : Str} {pos' : Pos} (hN : X.N.Nodup) (hi : X.N[i]? = some x) (hx : Loc X.env.scope x) (he : SE X fe e) (hs : swapsWith e (some (.Name x pos')) pos.line X.env = pure false) (hf : X.fn x = true ∨ X.env.scope.names.lookup x = some .local) :
    SS X Wc (hSet i fe) (.Assign [.Name x pos'] e pos) := weakS (ps_set hN hi hx he hs hf) fun D σ H => set_w fun _ q => q
theorem ss_setLc {i : Nat} {y : Str} {py : Pos} {fI : Env → RI} {t : Tg} {cond : Option RE} {elt : RE} {eE tg iter : Expr} {ifs : List Expr} {scope : Scope} {own : List (Str × Nat)} {spos : Pos} (hc : X.calm = true) (hN : X.N.Nodup) (hy : X.N[i]? = some y) (hyl : X.env.scope.names.lookup y = some .local)
    (hsw : swapsWith (.ListComp eE [⟨tg, iter, ifs, 0⟩] scope pos) (some (.Name y py)) spos.line X.env = pure true) (hown : ∀ i ∈ slots t, i ∈ own.map (·.2)) (hi : SI X fI tg iter) (ok : BlkOk X.N X.env.scope scope own)
    (hg : ∀ (s : Shared) (H : Hp) (C : Addr) (cl : List (Str × Addr)) (fp : List Addr), SG (X.blk s H scope (compEnvC scope cl C X.env) fp) t tg)
    (ht : ∀ (s : Shared) (H : Hp) (C : Addr) (cl : List (Str × Addr)) (fp : List Addr), PTs (X.blk s H scope (compEnvC scope cl C X.env) fp) ifs (ttOf X.K cond))
    (he : ∀ (s : Shared) (H : Hp) (C : Addr) (cl : List (Str × Addr)) (fp : List Addr), SE (X.blk s H scope (compEnvC scope cl C X.env) fp) elt eE) (hs : ∀ x, foldedSetIterable iter X.env x = pure x) :
    SS X Wc (hSet i fun E => gComp (fI E) (gStep E (own.map (·.2)) t cond elt)) (.Assign [.Name y py] (.ListComp eE [⟨tg, iter, ifs, 0⟩] scope pos) spos) :=
  weakS (ps_setLc hc hN hy hyl hsw hi ok hg ht he hs) fun D σ H => set_w fun Q q => lc_read hown q
/-- .. as a new cell -/
theorem mk_w {σ : L2.St} {H : Hp} {Q : VK} (h : tE X.K (fun E => gMk (fe E)) σ H Q) : tE X.K fe σ H Q := by
  obtain ⟨ρ, E, S, v, S', hs, he, hf, k⟩ := h
  obtain ⟨p, S1, h1, h2, rfl, rfl⟩ := gMk_inv hf
  refine ⟨ρ, E, S, _, S1, hs, he, h1, fun ρ1 v' H1 l1 s1 vx nx => ?_⟩
  obtain ⟨ρ2, l2, s2, e2⟩ := adopt l1 s1 nx vx h2
  exact k ρ2 v' H1 l2 s2 ⟨e2, by simp⟩ trivial
theorem ss_setLcM {i : Nat} {y : Str} {py : Pos} {fI : Env → RI} {t : Tg} {cond : Option RE} {elt : RE} {eE tg iter : Expr} {ifs : List Expr} {scope : Scope} {own : List (Str × Nat)} {spos : Pos} (hc : X.calm = true) (hN : X.N.Nodup) (hy : X.N[i]? = some y) (hyl : X.env.scope.names.lookup y = some .local)
    (hsw : swapsWith (.ListComp eE [⟨tg, iter, ifs, 0⟩] scope pos) (some (.Name y py)) spos.line X.env = pure true) (hown : ∀ i ∈ slots t, i ∈ own.map (·.2)) (hi : SI X fI tg iter) (ok : BlkOk X.N X.env.scope scope own)
    (hg : ∀ (s : Shared) (H : Hp) (C : Addr) (cl : List (Str × Addr)) (fp : List Addr), SG (X.blk s H scope (compEnvC scope cl C X.env) fp) t tg)
    (ht : ∀ (s : Shared) (H : Hp) (C : Addr) (cl : List (Str × Addr)) (fp : List Addr), PTs (X.blk s H scope (compEnvC scope cl C X.env) fp) ifs (ttOf X.K cond))
    (he : ∀ (s : Shared) (H : Hp) (C : Addr) (cl : List (Str × Addr)) (fp : List Addr), SE (X.blk s H scope (compEnvC scope cl C X.env) fp) elt eE) (hs : ∀ x, foldedSetIterable iter X.env x = pure x) :
    SS X Wc (hSet i fun E => gMk (gComp (fI E) (gStep E (own.map (·.2)) t cond elt))) (.Assign [.Name y py] (.ListComp eE [⟨tg, iter, ifs, 0⟩] scope pos) spos) :=
  weakS (ps_setLc hc hN hy hyl hsw hi ok hg ht he hs) fun D σ H => set_w fun Q q => lc_read hown (mk_w q)
theorem ss_tset {t : Tg} {tg : Expr} (he : SE X fe e) (hg : SG X t tg) (hs : swapsWithSole [tg] e pos.line X.env = pure false) (hw : swappedStores [tg] e X.env = pure none) (h1 : (assignEach [tg] X.env).map (·.2) = [assign tg X.env]) : SS X Wc (hTset t fe) (.Assign [tg] e pos) :=
  weakS (ps_asg he hg hs hw h1) fun D σ H ⟨ρ, E, S, fl, E', S', hs, he, hf, k⟩ => by
    simp only [hTset] at hf
    repeat' split at hf
    all_goals first | (cases hf; done) | skip
    simp only [Option.some.injEq, Prod.mk.injEq] at hf
    obtain ⟨rfl, rfl, rfl⟩ := hf
    exact ⟨ρ, E, S, _, _, hs, he, ‹_›, fun ρ1 v' H1 l1 s1 ve _ => ⟨ρ1, E, _, _, _, he.move hs l1, ve.stor ‹_›, ‹_›, fun σ' er _ => (k ρ1 H1 l1 s1).nx rfl σ' er⟩⟩
theorem ss_ret (he : SE X fe e) : SS X Wc (hRet fe) (.Return (some e) pos) := weakS (ps_ret he) fun D σ H ⟨ρ, E, S, fl, E', S', hs, he, hf, k⟩ => by
  simp only [hRet] at hf
  split at hf
  · simp only [Option.some.injEq, Prod.mk.injEq] at hf
    obtain ⟨rfl, rfl, rfl⟩ := hf
    exact ⟨ρ, E, S, _, _, hs, he, ‹_›, fun ρ1 v' H1 l1 s1 ve nw => (k ρ1 H1 l1 s1).rt _ rfl v' ve nw⟩
  · cases hf
theorem ss_retN : SS X Wc (fun E S => some (.ret (.v .non), E, S)) (.Return none pos) := weakS ps_retN fun D σ H ⟨ρ, E, S, fl, E', S', hs, he, hf, k⟩ => by
  simp only [Option.some.injEq, Prod.mk.injEq] at hf
  obtain ⟨rfl, rfl, rfl⟩ := hf
  exact (k ρ H .refl hs).rt _ rfl .non .non trivial
theorem ss_brk : SS X Wc (fun E S => some (.brk, E, S)) (.Break pos) := weakS ps_break fun D σ H ⟨ρ, E, S, fl, E', S', hs, he, hf, k⟩ => by
  simp only [Option.some.injEq, Prod.mk.injEq] at hf
  obtain ⟨rfl, rfl, rfl⟩ := hf
  exact (k ρ H .refl hs).bk rfl σ he
theorem ss_cont : SS X Wc (fun E S => some (.cont, E, S)) (.Continue pos) := weakS ps_continue fun D σ H ⟨ρ, E, S, fl, E', S', hs, he, hf, k⟩ => by
  simp only [Option.some.injEq, Prod.mk.injEq] at hf
  obtain ⟨rfl, rfl, rfl⟩ := hf
  exact (k ρ H .refl hs).ct rfl σ he
theorem ss_pass : SS X Wc (fun E S => some (.next, E, S)) (.Pass pos) := weakS ps_pass fun D σ H ⟨ρ, E, S, fl, E', S', hs, he, hf, k⟩ => by
  simp only [Option.some.injEq, Prod.mk.injEq] at hf
  obtain ⟨rfl, rfl, rfl⟩ := hf
  exact (k ρ H .refl hs).nx rfl σ he
theorem ss_never : SS X Wc (fun _ _ => none) st := weakS ps_never fun D σ H ⟨ρ, E, S, fl, E', S', hs, he, hf, k⟩ => nomatch hf
theorem hIfe_inv {E E' : Env} {S S' : Store} {fl : Fl} (h : hIfe fe f g E S = some (fl, E', S')) : ∃ x S1 p, fe E S = some (x, S1) ∧ rdT S1 x = some p ∧ ((truth p = true ∧ f E S1 = some (fl, E', S')) ∨ (truth p = false ∧ g E S1 = some (fl, E', S'))) := by
  simp only [hIfe] at h
  repeat' split at h
  all_goals first | (cases h; done) | exact ⟨_, _, _, ‹_›, ‹_›, .inl ⟨‹_›, h⟩⟩ | exact ⟨_, _, _, ‹_›, ‹_›, .inr ⟨‹_›, h⟩⟩
theorem ss_ife {a b : List Stmt} (hc : ST X fe e) (ha : SSs X Wc f a) (hb : SSs X Wc g b) : SS X Wc (hIfe fe f g) (.If e a b pos) := weakS (ps_if hc ha hb) fun D σ H ⟨ρ, E, S, fl, E', S', hs, he, hf, k⟩ => by
  obtain ⟨x, S1, p, h1, h2, h3⟩ := hIfe_inv hf
  refine ⟨ρ, E, S, x, S1, p, hs, he, h1, h2, fun ρ1 H1 l1 s1 => ?_⟩
  rcases h3 with ⟨tp, h3⟩ | ⟨tp, h3⟩
  · rw [tp, if_pos rfl]
    exact ⟨ρ1, E, S1, fl, E', S', s1, he.move hs l1, h3, fun ρ2 H2 l2 s2 => (k ρ2 H2 (l1.trans l2) s2).le l1⟩
  · rw [tp, if_neg Bool.false_ne_true]
    exact ⟨ρ1, E, S1, fl, E', S', s1, he.move hs l1, h3, fun ρ2 H2 l2 s2 => (k ρ2 H2 (l1.trans l2) s2).le l1⟩
end
end Py

set_option Elab.async false
set_option linter.all false
set_option maxRecDepth 100000
set_option maxHeartbeats 4000000
namespace Py
open PySem PySem.Spec PyProof.Rows L2
section
variable {K : Fg} {ρ ρ1 ρ2 : Rh} {S S' S1 S2 : Store} {H H1 H2 H0 : Hp} {src : EV}
theorem unlock_at (l : Lq ρ (lock S src) H ρ2 S2 H2) : (∀ b y, At (unlock S2 S src) b y ↔ At S2 b y) ∧ (unlock S2 S src).length = S2.length := by
  rcases lock_cases S src with ⟨_, e⟩ | ⟨a, x, _, e, e1, e2⟩
  · rw [e]; exact ⟨fun _ _ => Iff.rfl, rfl⟩
  · rw [e2]
    have ha : a < S.length := (List.getElem?_eq_some_iff.mp e).1
    have q : S2[a]? = some (.lock x) := l.lk a x (by rw [e1, List.getElem?_set_self ha])
    exact ⟨at_mark q rfl rfl, by simp⟩
theorem mu_eq (h : ∀ b y, At S' b y ↔ At S b y) (hl : S'.length = S.length) : Mu ρ S' = Mu ρ S := by
  funext n p
  cases n with
  | zero => exact propext (mu_at h p)
  | succ n =>
    show (n < S'.length ∧ ρ n = p) = (n < S.length ∧ ρ n = p)
    rw [hl]
theorem VE.atq (h : ∀ b y, At S' b y ↔ At S b y) (hl : S'.length = S.length) : ∀ {x : EV} {v : V}, VE K ρ S H x v → VE K ρ S' H x v
  | .v x, _, q => by show VR K (Mu ρ S') H x _; rw [mu_eq h hl]; exact q
  | .n x, _, q => by show VR K (Mu ρ S') H x _; rw [mu_eq h hl]; exact q
  | .r a, _, ⟨e, q⟩ => ⟨e, by rw [hl]; exact q⟩
theorem VS.atq (h : ∀ b y, At S' b y ↔ At S b y) (hl : S'.length = S.length) : ∀ {x : EV} {v : V}, VS K ρ S H x v → VS K ρ S' H x v
  | .v x, _, q => by show VR K (Mu ρ S') H x _; rw [mu_eq h hl]; exact q
  | .n x, _, q => q.elim
  | .r a, _, ⟨e, q⟩ => ⟨e, by rw [hl]; exact q⟩
theorem ER.atq {E : Env} {σ : L2.St} (h : ∀ b y, At S' b y ↔ At S b y) (hl : S'.length = S.length) (e : ER K ρ S H E σ) : ER K ρ S' H E σ := ⟨e.len, fun i x q => by
  obtain ⟨v, h1, h2⟩ := e.at_ i x q
  exact ⟨v, h1, h2.atq h hl⟩⟩
theorem New.atq (h : ∀ b y, At S' b y ↔ At S b y) (hl : S'.length = S.length) : ∀ {x : EV} {v : V}, New K ρ S H H0 x v → New K ρ S' H H0 x v
  | .v x, _, _ => trivial
  | .n x, _, q => fun p e => ⟨(q p e).1, fun c => ⟨sim_at h hl ((q p e).2 c).1, by rw [mu_eq h hl]; exact ((q p e).2 c).2⟩⟩
  | .r a, _, _ => trivial
theorem New.dom (d : ∀ p, H1 p = none → H0 p = none) : ∀ {x : EV} {v : V}, New K ρ S H H1 x v → New K ρ S H H0 x v
  | .v x, _, _ => trivial
  | .n x, _, q => fun p e => ⟨d p (q p e).1, (q p e).2⟩
  | .r a, _, _ => trivial
theorem forL_cons {step : PV → RS} {x : PV} {xs : List PV} {E E' : Env} {S S' : Store} {fl : Fl} (h : forL step (x :: xs) E S = some (fl, E', S')) : ∃ fl1 E1 S1, step x E S = some (fl1, E1, S1) ∧
    (((fl1 = .next ∨ fl1 = .cont) ∧ forL step xs E1 S1 = some (fl, E', S')) ∨ (fl1 = .brk ∧ fl = .next ∧ E' = E1 ∧ S' = S1) ∨ (∃ v, fl1 = .ret v ∧ fl = .ret v ∧ E' = E1 ∧ S' = S1) ∨ ∃ c, fl1 = .exc c ∧ fl = .exc c ∧ E' = E1 ∧ S' = S1) := by
  simp only [forL] at h
  repeat' split at h
  all_goals first | (cases h; done) | skip
  · exact ⟨_, _, _, ‹_›, .inl ⟨.inl rfl, h⟩⟩
  · exact ⟨_, _, _, ‹_›, .inl ⟨.inr rfl, h⟩⟩
  · simp only [Option.some.injEq, Prod.mk.injEq] at h
    obtain ⟨rfl, rfl, rfl⟩ := h
    exact ⟨_, _, _, ‹_›, .inr (.inl ⟨rfl, rfl, rfl, rfl⟩)⟩
  · simp only [Option.some.injEq, Prod.mk.injEq] at h
    obtain ⟨rfl, rfl, rfl⟩ := h
    exact ⟨_, _, _, ‹_›, .inr (.inr (.inl ⟨_, rfl, rfl, rfl, rfl⟩))⟩
  · simp only [Option.some.injEq, Prod.mk.injEq] at h
    obtain ⟨rfl, rfl, rfl⟩ := h
    exact ⟨_, _, _, ‹_›, .inr (.inr (.inr ⟨_, rfl, rfl, rfl, rfl⟩))⟩
theorem hFor_inv {t : Tg} {it : Env → RI} {body : RS} {E E' : Env} {S S' : Store} {fl : Fl} (h : hFor t it body E S = some (fl, E', S')) : ∃ items src S1 S9, it E S = some (items, src, S1) ∧ forL (hTurn t body) items E (lock S1 src) = some (fl, E', S9) ∧ S' = unlock S9 S1 src := by
  simp only [hFor] at h
  repeat' split at h
  all_goals first | (cases h; done) | skip
  simp only [Option.some.injEq, Prod.mk.injEq] at h
  obtain ⟨rfl, rfl, rfl⟩ := h
  exact ⟨_, _, _, _, ‹_›, ‹_›, rfl⟩
theorem hTurn_inv {t : Tg} {body : RS} {x : PV} {E E' : Env} {S S' : Store} {fl : Fl} (h : hTurn t body x E S = some (fl, E', S')) : ∃ E3, asg t x E = some E3 ∧ body E3 S = some (fl, E', S') := by
  simp only [hTurn] at h
  split at h
  · exact ⟨_, ‹_›, h⟩
  · cases h
end
section
variable {X : Cx} {Wc : XW} {f g : RS} {fe ge : RE} {st : Stmt} {rest : List Stmt} {e : Expr} {pos : Pos}
theorem ss_for {fI : Env → RI} {t : Tg} {tg iter : Expr} {body : List Stmt} (hp : PassesOwn (model X.prog X.w) X.A X.env X.xe) (hc : X.calm = true) (hi : SI X fI tg iter) (hg : SG X t tg) (hb : SSs X Wc f body) (hs : ∀ x, foldedSetIterable iter X.env x = pure x) :
    SS X Wc (hFor t fI f) (.For tg iter body [] pos) := weakS (ps_for hp hc hi hg hb hs) fun D σ H ⟨ρ, E, S, fl, E', S', hs, he, hf, k⟩ => by
  obtain ⟨items, src, S1, S9, h1, h2, rfl⟩ := hFor_inv hf
  refine ⟨ρ, E, S, items, src, S1, hs, he, h1, fun ρ1 H1 J l1 s1 wk => ?_⟩
  obtain ⟨G, Y, W, hG, hY⟩ := wk.ex
  have sL := lockSim src s1
  have done : ∀ ρ3 H4, ρ3.F = ρ1.F → Sim X.K ρ3 S9 H4 → Lq ρ1 (lock S1 src) H1 ρ3 S9 H4 → Od X.K Wc ρ3 (unlock S9 S1 src) H4 H E' fl D := fun ρ3 H4 f3 s3 l3 =>
    k ρ3 H4 (l1.trans ((unlockLq l3).le f3)) (unlockSim s1 l3 s3)
  refine for_it W (fun i σ H => ∃ ρ2 E2 S2, ρ2.F = ρ1.F ∧ Sim X.K ρ2 S2 H ∧ Lq ρ1 (lock S1 src) H1 ρ2 S2 H ∧ ER X.K ρ2 S2 H E2 σ ∧ forL (hTurn t f) (items.drop i) E2 S2 = some (fl, E', S9))
    ⟨ρ1, E, _, rfl, sL, Le.refl.lq, (he.move hs l1).move s1 (lockLe src), h2⟩ (fun i σ2 H2 _ ⟨ρ2, E2, S2, f2, s2, l2, er2, e2⟩ => hG ρ2 S2 H2 l2 s2) (fun i x σ2 H2 H3 hi ⟨ρ2, E2, S2, f2, s2, l2, er2, e2⟩ y => ?_) fun σ2 H2 ⟨ρ2, E2, S2, f2, s2, l2, er2, e2⟩ => ?_
  · obtain ⟨sm, z, hz, rz⟩ := hY i ρ2 S2 H2 x H3 l2 s2 hi y
    have dr : items.drop i = z :: items.drop (i + 1) := by
      rw [List.drop_eq_getElem_cons hi]
      congr 1
      rw [List.getElem?_eq_getElem hi] at hz
      exact Option.some.inj hz
    rw [dr] at e2
    obtain ⟨fl1, E3, S3, e3, e4⟩ := forL_cons e2
    obtain ⟨E4, g1, g2⟩ := hTurn_inv e3
    have s2' := s2.same sm
    have l2' : Lq ρ1 (lock S1 src) H1 ρ2 S2 H3 := l2.trans (Le.same sm).lq
    refine ⟨ρ2, E2, S2, z, E4, er2.move s2 (.same sm), rz, g1, fun σ3 er3 _ => ⟨ρ2, E4, S2, fl1, E3, S3, s2', er3, g2, fun ρ3 H4 l3 s3 => ?_⟩⟩
    have l4 := l2'.trans l3.lq
    have f3 : ρ3.F = ρ1.F := l3.fr.trans f2
    refine ⟨fun q σ4 er4 => ?_, fun q σ4 er4 => ?_, fun q σ4 er4 => ?_, fun v q v' ve nw => ?_, fun c q => ?_⟩
    · subst q
      rcases e4 with ⟨_, e4⟩ | ⟨e4, _⟩ | ⟨_, e4, _⟩ | ⟨_, e4, _⟩
      · exact ⟨ρ3, E3, S3, f3, s3, l4, er4, e4⟩
      · cases e4
      · cases e4
      · cases e4
    · subst q
      rcases e4 with ⟨e4 | e4, _⟩ | ⟨_, rfl, rfl, rfl⟩ | ⟨_, e4, _⟩ | ⟨_, e4, _⟩
      · cases e4
      · cases e4
      · obtain ⟨a1, a2⟩ := unlock_at l4
        exact (done ρ3 H4 f3 s3 l4).nx rfl σ4 (er4.atq a1 a2)
      · cases e4
      · cases e4
    · subst q
      rcases e4 with ⟨_, e4⟩ | ⟨e4, _⟩ | ⟨_, e4, _⟩ | ⟨_, e4, _⟩
      · exact ⟨ρ3, E3, S3, f3, s3, l4, er4, e4⟩
      · cases e4
      · cases e4
      · cases e4
    · subst q
      rcases e4 with ⟨e4 | e4, _⟩ | ⟨e4, _⟩ | ⟨w, e4, rfl, rfl, rfl⟩ | ⟨_, e4, _⟩
      · cases e4
      · cases e4
      · cases e4
      · cases e4
        obtain ⟨a1, a2⟩ := unlock_at l4
        have nw' := New.dom (H0 := H) (fun p z => l1.dom p (l2'.dom p z)) nw
        exact (done ρ3 H4 f3 s3 l4).rt v rfl v' (ve.atq a1 a2) (nw'.atq a1 a2)
      · cases e4
    · subst q
      rcases e4 with ⟨e4 | e4, _⟩ | ⟨e4, _⟩ | ⟨w, e4, _⟩ | ⟨w, e4, rfl, rfl, rfl⟩
      · cases e4
      · cases e4
      · cases e4
      · cases e4
      · cases e4
        exact (done ρ3 H4 f3 s3 l4).xc c rfl
  · rw [List.drop_length] at e2
    simp only [forL, Option.some.injEq, Prod.mk.injEq] at e2
    obtain ⟨rfl, rfl, rfl⟩ := e2
    obtain ⟨a1, a2⟩ := unlock_at l2
    exact (done ρ2 H2 f2 s2 l2).nx rfl σ2 (er2.atq a1 a2)
theorem whileL_inv {test : Env → Store → Option (Bool × Store)} {body : RS} {m : Nat} {E E' : Env} {S S' : Store} {fl : Fl} (h : whileL test body m E S = some (fl, E', S')) : ∃ n b S0, m = n + 1 ∧ test E S = some (b, S0) ∧
    ((b = false ∧ fl = .next ∧ E' = E ∧ S' = S0) ∨ (b = true ∧ ∃ fl1 E1 S1, body E S0 = some (fl1, E1, S1) ∧
      (((fl1 = .next ∨ fl1 = .cont) ∧ whileL test body n E1 S1 = some (fl, E', S')) ∨ (fl1 = .brk ∧ fl = .next ∧ E' = E1 ∧ S' = S1) ∨ (∃ v, fl1 = .ret v ∧ fl = .ret v ∧ E' = E1 ∧ S' = S1) ∨ ∃ c, fl1 = .exc c ∧ fl = .exc c ∧ E' = E1 ∧ S' = S1))) := by
  cases m with
  | zero => simp [whileL] at h
  | succ n =>
    simp only [whileL] at h
    repeat' split at h
    all_goals first | (cases h; done) | skip
    · exact ⟨_, _, _, rfl, ‹_›, .inr ⟨rfl, _, _, _, ‹_›, .inl ⟨.inl rfl, h⟩⟩⟩
    · exact ⟨_, _, _, rfl, ‹_›, .inr ⟨rfl, _, _, _, ‹_›, .inl ⟨.inr rfl, h⟩⟩⟩
    · simp only [Option.some.injEq, Prod.mk.injEq] at h
      obtain ⟨rfl, rfl, rfl⟩ := h
      exact ⟨_, _, _, rfl, ‹_›, .inr ⟨rfl, _, _, _, ‹_›, .inr (.inl ⟨rfl, rfl, rfl, rfl⟩)⟩⟩
    · simp only [Option.some.injEq, Prod.mk.injEq] at h
      obtain ⟨rfl, rfl, rfl⟩ := h
      exact ⟨_, _, _, rfl, ‹_›, .inr ⟨rfl, _, _, _, ‹_›, .inr (.inr (.inl ⟨_, rfl, rfl, rfl, rfl⟩))⟩⟩
    · simp only [Option.some.injEq, Prod.mk.injEq] at h
      obtain ⟨rfl, rfl, rfl⟩ := h
      exact ⟨_, _, _, rfl, ‹_›, .inr ⟨rfl, _, _, _, ‹_›, .inr (.inr (.inr ⟨_, rfl, rfl, rfl, rfl⟩))⟩⟩
    · simp only [Option.some.injEq, Prod.mk.injEq] at h
      obtain ⟨rfl, rfl, rfl⟩ := h
      exact ⟨_, _, _, rfl, ‹_›, .inl ⟨rfl, rfl, rfl, rfl⟩⟩
theorem hTest_inv {c : RE} {E : Env} {S S' : Store} {b : Bool} (h : hTest c E S = some (b, S')) : ∃ x p, c E S = some (x, S') ∧ rdT S' x = some p ∧ b = truth p := by
  simp only [hTest] at h
  repeat' split at h
  all_goals first | (cases h; done) | skip
  simp only [Option.some.injEq, Prod.mk.injEq] at h
  obtain ⟨rfl, rfl⟩ := h
  exact ⟨_, _, ‹_›, ‹_›, rfl⟩
theorem ss_while {w : Nat} {body : List Stmt} (hp : PassesOwn (model X.prog X.w) X.A X.env X.xe) (hc : ST X fe e) (hb : SSs X Wc f body) : SS X Wc (hWhile w fe f) (.While e body [] pos) := weakS (ps_while hp hc hb) fun D σ H ⟨ρ, E, S, fl, E', S', hs, he, hf, k⟩ => by
  refine ⟨fun m σ2 H2 => ∃ ρ2 E2 S2, Le ρ S H ρ2 S2 H2 ∧ Sim X.K ρ2 S2 H2 ∧ ER X.K ρ2 S2 H2 E2 σ2 ∧ whileL (hTest fe) f m E2 S2 = some (fl, E', S'), ⟨w, ρ, E, S, .refl, hs, he, hf⟩, ?_⟩
  rintro m σ2 H2 ⟨ρ2, E2, S2, l2, s2, er2, e2⟩
  obtain ⟨n, b, S0, rfl, g1, g2⟩ := whileL_inv e2
  obtain ⟨x, p, g3, g4, rfl⟩ := hTest_inv g1
  refine ⟨ρ2, E2, S2, x, S0, p, s2, er2, g3, g4, fun ρ3 H3 l3 s3 => ?_⟩
  rcases g2 with ⟨tp, rfl, rfl, rfl⟩ | ⟨tp, fl1, E1, S1, g5, g6⟩
  · rw [tp, if_neg Bool.false_ne_true]
    exact (k ρ3 H3 (l2.trans l3) s3).nx rfl σ2 (er2.move s2 l3)
  · rw [tp, if_pos rfl]
    refine ⟨_, fun σ' H' z => ⟨n, Nat.lt_succ_self n, z⟩, ρ3, E2, S0, fl1, E1, S1, s3, er2.move s2 l3, g5, fun ρ4 H4 l4 s4 => ?_⟩
    have l5 := (l2.trans l3).trans l4
    refine ⟨fun q σ4 er4 => ?_, fun q σ4 er4 => ?_, fun q σ4 er4 => ?_, fun v q v' ve nw => ?_, fun c q => ?_⟩
    · subst q
      rcases g6 with ⟨_, g6⟩ | ⟨g6, _⟩ | ⟨_, g6, _⟩ | ⟨_, g6, _⟩
      · exact ⟨ρ4, E1, S1, l5, s4, er4, g6⟩
      · cases g6
      · cases g6
      · cases g6
    · subst q
      rcases g6 with ⟨g6 | g6, _⟩ | ⟨_, rfl, rfl, rfl⟩ | ⟨_, g6, _⟩ | ⟨_, g6, _⟩
      · cases g6
      · cases g6
      · exact (k ρ4 H4 l5 s4).nx rfl σ4 er4
      · cases g6
      · cases g6
    · subst q
      rcases g6 with ⟨_, g6⟩ | ⟨g6, _⟩ | ⟨_, g6, _⟩ | ⟨_, g6, _⟩
      · exact ⟨ρ4, E1, S1, l5, s4, er4, g6⟩
      · cases g6
      · cases g6
      · cases g6
    · subst q
      rcases g6 with ⟨g6 | g6, _⟩ | ⟨g6, _⟩ | ⟨w, g6, rfl, rfl, rfl⟩ | ⟨_, g6, _⟩
      · cases g6
      · cases g6
      · cases g6
      · cases g6
        exact (k ρ4 H4 l5 s4).rt v rfl v' ve (nw.le (l2.trans l3))
      · cases g6
    · subst q
      rcases g6 with ⟨g6 | g6, _⟩ | ⟨g6, _⟩ | ⟨w, g6, _⟩ | ⟨w, g6, rfl, rfl, rfl⟩
      · cases g6
      · cases g6
      · cases g6
      · cases g6
      · cases g6
        exact (k ρ4 H4 l5 s4).xc c rfl
/-! ### several names at once -/
theorem parE_two {i j : Nat} {vs : List EV} {E E' : Env} (h : parE [i, j] vs E = some E') : ∃ x y, vs = [x, y] ∧ E' = (E.set i (some (toE x))).set j (some (toE y)) := by
  match vs, h with
  | [x, y], h => simp only [parE, Option.some.injEq] at h; exact ⟨x, y, rfl, h.symm⟩
theorem parE_three {i j l : Nat} {vs : List EV} {E E' : Env} (h : parE [i, j, l] vs E = some E') : ∃ x y z, vs = [x, y, z] ∧ E' = ((E.set i (some (toE x))).set j (some (toE y))).set l (some (toE z)) := by
  match vs, h with
  | [x, y, z], h => simp only [parE, Option.some.injEq] at h; exact ⟨x, y, z, rfl, h.symm⟩
theorem hPar_inv {xs : List Nat} {f : Env → RL} {E E' : Env} {S S' : Store} {fl : Fl} (h : hPar xs f E S = some (fl, E', S')) : ∃ vs, f E S = some (vs, S') ∧ parE xs vs E = some E' ∧ fl = .next := by
  simp only [hPar] at h
  repeat' split at h
  all_goals first | (cases h; done) | skip
  simp only [Option.some.injEq, Prod.mk.injEq] at h
  obtain ⟨rfl, rfl, rfl⟩ := h
  exact ⟨_, ‹_›, ‹_›, rfl⟩
theorem ss_par {i j : Nat} {x y : Str} {a b : Expr} {ta : Env → RL} {px py pt : Pos} {kt k2 pt2} (hc : X.calm = true) (hN : X.N.Nodup) (hi : X.N[i]? = some x) (hj : X.N[j]? = some y) (hij : i ≠ j)
    (hx : X.env.scope.names.lookup x = some .local) (hy : X.env.scope.names.lookup y = some .local) (ha : SA X ta [a, b])
    (hw : swappedStores [.Tuple [.Name x px, .Name y py] kt pt] (.Tuple [a, b] k2 pt2) X.env = pure (some [x, y]))
    (hs : swapsWithSole [.Tuple [.Name x px, .Name y py] kt pt] (.Tuple [a, b] k2 pt2) pos.line X.env = pure false) :
    SS X Wc (hPar [i, j] ta) (.Assign [.Tuple [.Name x px, .Name y py] kt pt] (.Tuple [a, b] k2 pt2) pos) := weakS (ps_par hc hN hi hj hij hx hy ha hw hs) fun D σ H ⟨ρ, E, S, fl, E', S', hs, he, hf, k⟩ => by
  obtain ⟨vs, h1, h2, rfl⟩ := hPar_inv hf
  obtain ⟨u, v, rfl, rfl⟩ := parE_two h2
  refine ⟨ρ, E, S, _, S', hs, he, h1, fun ρ1 us H1 l1 s1 r => ?_⟩
  cases r with
  | cons r1 r => cases r with
    | cons r2 r =>
      cases r
      exact ⟨_, _, rfl, (k ρ1 H1 l1 s1).nx rfl _ (((he.move hs l1).set r1.toE).set r2.toE)⟩
theorem ss_par3 {i j l : Nat} {x y z : Str} {a b c : Expr} {ta : Env → RL} {px py pz pt : Pos} {kt k2 pt2} (hc : X.calm = true) (hN : X.N.Nodup) (hi : X.N[i]? = some x) (hj : X.N[j]? = some y) (hl : X.N[l]? = some z) (hij : i ≠ j) (hil : i ≠ l) (hjl : j ≠ l)
    (hx : X.env.scope.names.lookup x = some .local) (hy : X.env.scope.names.lookup y = some .local) (hz : X.env.scope.names.lookup z = some .local) (ha : SA X ta [a, b, c])
    (hw : swappedStores [.Tuple [.Name x px, .Name y py, .Name z pz] kt pt] (.Tuple [a, b, c] k2 pt2) X.env = pure (some [x, y, z]))
    (hs : swapsWithSole [.Tuple [.Name x px, .Name y py, .Name z pz] kt pt] (.Tuple [a, b, c] k2 pt2) pos.line X.env = pure false) :
    SS X Wc (hPar [i, j, l] ta) (.Assign [.Tuple [.Name x px, .Name y py, .Name z pz] kt pt] (.Tuple [a, b, c] k2 pt2) pos) := weakS (ps_par3 hc hN hi hj hl hij hil hjl hx hy hz ha hw hs) fun D σ H ⟨ρ, E, S, fl, E', S', hs, he, hf, k⟩ => by
  obtain ⟨vs, h1, h2, rfl⟩ := hPar_inv hf
  obtain ⟨u, v, t, rfl, rfl⟩ := parE_three h2
  refine ⟨ρ, E, S, _, S', hs, he, h1, fun ρ1 us H1 l1 s1 r => ?_⟩
  cases r with
  | cons r1 r => cases r with
    | cons r2 r => cases r with
      | cons r3 r =>
        cases r
        exact ⟨_, _, _, rfl, (k ρ1 H1 l1 s1).nx rfl _ ((((he.move hs l1).set r1.toE).set r2.toE).set r3.toE)⟩
/-! ### stores into lists -/
theorem cellOf_inv {E : Env} {S : Store} {x a : Nat} {p : PV} (h : cellOf E S x = some (a, p)) : E[x]? = some (some (.r a)) ∧ S[a]? = some (.live p) := by
  simp only [cellOf] at h
  repeat' split at h
  all_goals first | (cases h; done) | skip
  simp only [Option.some.injEq, Prod.mk.injEq] at h
  obtain ⟨rfl, rfl⟩ := h
  exact ⟨‹_›, ‹_›⟩
theorem isLst_inv {o : Option (Nat × PV)} (h : isLst o = true) : ∃ a xs, o = some (a, .lst xs) := by
  unfold isLst at h
  split at h
  · exact ⟨_, _, rfl⟩
  · cases h
theorem hApp_inv {i : Nat} {E E' : Env} {S S' : Store} {fl : Fl} (h : hApp i fe E S = some (fl, E', S')) : ∃ a xs0 v S1 p xs, cellOf E S i = some (a, .lst xs0) ∧ fe E S = some (v, S1) ∧ stor v = some p ∧ cellOf E S1 i = some (a, .lst xs) ∧ xs.length < line ∧ fl = .next ∧ E' = E ∧ S' = S1.set a (.live (.lst (xs ++ [p]))) := by
  simp only [hApp] at h
  repeat' split at h
  all_goals first | (cases h; done) | skip
  rename_i q0 _ v S1 q1 _ p q2 _ b xs q3 q4
  simp only [Option.some.injEq, Prod.mk.injEq] at h
  obtain ⟨rfl, rfl, rfl⟩ := h
  obtain ⟨a, xs0, q5⟩ := isLst_inv q0
  obtain ⟨w1, w2⟩ := cellOf_inv q5
  obtain ⟨w3, w4⟩ := cellOf_inv q3
  rw [w1] at w3
  cases w3
  exact ⟨_, _, _, _, _, _, q5, q1, q2, q3, Nat.le_of_ble_eq_true q4, rfl, rfl, rfl⟩
theorem hExt_inv {i : Nat} {E E' : Env} {S S' : Store} {fl : Fl} (h : hExt i fe E S = some (fl, E', S')) : ∃ a xs0 v S1 ys xs, cellOf E S i = some (a, .lst xs0) ∧ fe E S = some (v, S1) ∧ (stor v).bind seqOf = some ys ∧ cellOf E S1 i = some (a, .lst xs) ∧ xs.length + ys.length ≤ line ∧ fl = .next ∧ E' = E ∧ S' = S1.set a (.live (.lst (xs ++ ys))) := by
  simp only [hExt] at h
  repeat' split at h
  all_goals first | (cases h; done) | skip
  rename_i q0 _ v S1 q1 _ p q2 _ b xs q3 q4
  simp only [Option.some.injEq, Prod.mk.injEq] at h
  obtain ⟨rfl, rfl, rfl⟩ := h
  obtain ⟨a, xs0, q5⟩ := isLst_inv q0
  obtain ⟨w1, w2⟩ := cellOf_inv q5
  obtain ⟨w3, w4⟩ := cellOf_inv q3
  rw [w1] at w3
  cases w3
  exact ⟨_, _, _, _, _, _, q5, q1, q2, q3, Nat.le_of_ble_eq_true q4, rfl, rfl, rfl⟩
theorem CV.lst' {K : Fg} {M : Ml} {H : Hp} {p : Addr} {xs : List PV} (h : CV K M H p (.lst xs)) : ∃ us, H p = some (.lst us) ∧ VRs K M H xs us := by
  cases h with | lst h r => exact ⟨_, h, r⟩
/-- the name's cell -/
theorem cell_at {K : Fg} {ρ : Rh} {S : Store} {H : Hp} {E : Env} {σ : L2.St} {i a : Nat} {p : PV} (hs : Sim K ρ S H) (he : ER K ρ S H E σ) (h : cellOf E S i = some (a, p)) : σ[i]? = some (some (.ref (ρ a))) ∧ a < S.length ∧ S[a]? = some (.live p) ∧ CV K (Mu ρ S) H (ρ a) p := by
  obtain ⟨h1, h2⟩ := cellOf_inv h
  obtain ⟨v, h3, h4, h5⟩ := he.at_ i _ h1
  subst h4
  exact ⟨h3, h5, h2, hs.cell a p ⟨_, h2, rfl⟩⟩
theorem ss_app {i : Nat} {x : Str} {es : List Expr} {np apos cpos spos : Pos} (hN : X.N[i]? = some x) (hv : Vis X.env.scope x) (hd : (x == ("__debug__" : Str)) = false) (hcd : (x == ("__classdict__" : Str)) = false) (ha : SE X fe e)
    (hbase : attributeBase (.Name x np) "append" X.env (eval (.Name x np) X.env) = eval (.Name x np) X.env)
    (hfew : ((backTo cpos (starEach [e] X.env)).all (fun x => !x.1) && (backToKw cpos (keywordEach [] X.env)).all (fun x => x.1.isSome)
      && decide ([e].length + ([] : List Keyword).length + (if ([] : List Keyword).isEmpty then 0 else 1) < 30)) = true)
    (hline : (apos.endLine == cpos.line) = true) (hs : starEach [e] X.env = [(false, eval e X.env)]) (hplain : (backTo cpos (starEach [] X.env)).any (·.1) = false) :
    SS X Wc (hApp i fe) (.Expr (.Call (.Attribute (.Name x np) "append" apos) [e] [] cpos) spos) :=
  weakS (ps_expr (pe_bm (T := "list") F.plainAttrs_list F.slot_list_append rfl mt_append (pe_var hN hv hd hcd) (pa_cons ha pa_nil (by rw [hs]; rfl)) hbase hfew hline (by rw [hs]; rfl) hplain) rfl) fun D σ H ⟨ρ, E, S, fl, E', S', hs, he, hf, k⟩ => by
    obtain ⟨a, xs0, v, S1, p, xs, h0, h1, h2, h3, h4, rfl, rfl, rfl⟩ := hApp_inv hf
    obtain ⟨c1, c2, c3, c4⟩ := cell_at hs he h0
    obtain ⟨us0, c5, _⟩ := c4.lst'
    refine ⟨_, c1, .inl ⟨rfl, us0, SqL.of c5⟩, ρ, _, S, v, S1, hs, he, h1, fun ρ1 v' H1 l1 s1 ve _ => ?_⟩
    obtain ⟨d1, d2, d3, d4⟩ := cell_at s1 (he.move hs l1) h3
    obtain ⟨us, d5, r⟩ := d4.lst'
    rw [c1] at d1
    have er := Option.some.inj (Option.some.inj d1)
    rw [er]
    obtain ⟨s2, l2⟩ := write s1 d3 (o := .lst (us ++ [v'])) trivial (c1 := .lst (xs ++ [p])) fun M' H' mv q => .lst q ((r.append (.one (ve.stor h2))).move mv)
    refine ⟨_, us, v', rfl, rfl, d5, by rw [← r.length]; exact h4, (k ρ1 _ (l1.trans l2) s2).nx rfl σ ((he.move hs l1).move s1 l2)⟩
theorem hAppx_inv {fo : RE} {E E' : Env} {S S' : Store} {fl : Fl} (h : hAppx fo fe E S = some (fl, E', S')) : ∃ a S0 xs0 v S1 p xs, fo E S = some (.r a, S0) ∧ S0[a]? = some (.live (.lst xs0)) ∧ fe E S0 = some (v, S1) ∧ stor v = some p ∧ S1[a]? = some (.live (.lst xs)) ∧ xs.length < line ∧ fl = .next ∧ E' = E ∧ S' = S1.set a (.live (.lst (xs ++ [p]))) := by
  have la : ∀ {T : Store} {a : Nat} {xs : List PV}, lstAt T a = some xs → T[a]? = some (.live (.lst xs)) := fun {T a xs} h => by
    simp only [lstAt] at h
    repeat' split at h
    all_goals first | (cases h; done) | skip
    cases h
    assumption
  simp only [hAppx] at h
  repeat' split at h
  all_goals first | (cases h; done) | skip
  simp only [Option.some.injEq, Prod.mk.injEq] at h
  obtain ⟨rfl, rfl, rfl⟩ := h
  exact ⟨_, _, _, _, _, _, _, ‹_›, la ‹_›, ‹_›, ‹_›, la ‹_›, Nat.le_of_ble_eq_true ‹_›, rfl, rfl, rfl⟩
theorem ss_appx {fo : RE} {o : Expr} {es : List Expr} {apos cpos spos : Pos} (ho : SE X fo o) (ha : SE X fe e)
    (hbase : attributeBase o "append" X.env (eval o X.env) = eval o X.env)
    (hfew : ((backTo cpos (starEach [e] X.env)).all (fun x => !x.1) && (backToKw cpos (keywordEach [] X.env)).all (fun x => x.1.isSome)
      && decide ([e].length + ([] : List Keyword).length + (if ([] : List Keyword).isEmpty then 0 else 1) < 30)) = true)
    (hline : (apos.endLine == cpos.line) = true) (hs : starEach [e] X.env = [(false, eval e X.env)]) (hplain : (backTo cpos (starEach [] X.env)).any (·.1) = false) :
    SS X Wc (hAppx fo fe) (.Expr (.Call (.Attribute o "append" apos) [e] [] cpos) spos) :=
  weakS (ps_expr (pe_bm (T := "list") F.plainAttrs_list F.slot_list_append rfl mt_append ho (pa_cons ha pa_nil (by rw [hs]; rfl)) hbase hfew hline (by rw [hs]; rfl) hplain) rfl) fun D σ H ⟨ρ, E, S, fl, E', S', hs, he, hf, k⟩ => by
    obtain ⟨a, S0, xs0, v, S1, p, xs, h0, h1, h2, h3, h4, h5, rfl, rfl, rfl⟩ := hAppx_inv hf
    refine ⟨ρ, _, S, .r a, S0, hs, he, h0, fun ρ0 o' H0 l0 s0 vo _ => ?_⟩
    obtain ⟨rfl, hlt⟩ := vo
    have c4 := s0.cell a _ ⟨_, h1, rfl⟩
    obtain ⟨us0, c5, _⟩ := c4.lst'
    refine ⟨.inl ⟨rfl, us0, SqL.of c5⟩, ρ0, _, S0, v, S1, s0, he.move hs l0, h2, fun ρ1 v' H1 l1 s1 ve _ => ?_⟩
    have d4 := s1.cell a _ ⟨_, h4, rfl⟩
    obtain ⟨us, d5, r⟩ := d4.lst'
    rw [← l1.eq a hlt]
    obtain ⟨s2, l2⟩ := write s1 h4 (o := .lst (us ++ [v'])) trivial (c1 := .lst (xs ++ [p])) fun M' H' mv q => .lst q ((r.append (.one (ve.stor h3))).move mv)
    refine ⟨_, us, v', rfl, rfl, d5, by rw [← r.length]; exact h5, (k ρ1 _ ((l0.trans l1).trans l2) s2).nx rfl σ (((he.move hs l0).move s0 l1).move s1 l2)⟩
end
end Py

set_option Elab.async false
set_option linter.all false
set_option maxRecDepth 100000
set_option maxHeartbeats 4000000
namespace Py
open PySem PySem.Spec PyProof.Rows L2
section
variable {X : Cx} {Wc : XW} {f g : RS} {fe ge : RE} {st : Stmt} {rest : List Stmt} {e : Expr} {pos : Pos}
theorem vrs_lst {K : Fg} {M : Ml} {H : Hp} {xs : List PV} {v : V} (h : VR K M H (.lst xs) v) : ∃ p us, v = .ref p ∧ H p = some (.lst us) ∧ VRs K M H xs us := by
  cases h with | lst h _ r => exact ⟨_, _, rfl, h, r⟩
theorem vrs_seq {K : Fg} {M : Ml} {H : Hp} {x : PV} {xs : List PV} {v : V} (e : seqOf x = some xs) (h : VR K M H x v) : ∃ p us, v = .ref p ∧ (H p = some (.lst us) ∨ SqT K H p us) ∧ VRs K M H xs us := by
  cases h with
  | lst h _ r => cases e; exact ⟨_, _, rfl, .inl h, r⟩
  | tup h r => cases e; exact ⟨_, _, rfl, .inr h, r⟩
  | _ => cases e
theorem ss_ext {i : Nat} {x : Str} {es : List Expr} {np apos cpos spos : Pos} (hN : X.N[i]? = some x) (hv : Vis X.env.scope x) (hd : (x == ("__debug__" : Str)) = false) (hcd : (x == ("__classdict__" : Str)) = false) (ha : SE X fe e)
    (hbase : attributeBase (.Name x np) "extend" X.env (eval (.Name x np) X.env) = eval (.Name x np) X.env)
    (hfew : ((backTo cpos (starEach [e] X.env)).all (fun x => !x.1) && (backToKw cpos (keywordEach [] X.env)).all (fun x => x.1.isSome)
      && decide ([e].length + ([] : List Keyword).length + (if ([] : List Keyword).isEmpty then 0 else 1) < 30)) = true)
    (hline : (apos.endLine == cpos.line) = true) (hs : starEach [e] X.env = [(false, eval e X.env)]) (hplain : (backTo cpos (starEach [] X.env)).any (·.1) = false) :
    SS X Wc (hExt i fe) (.Expr (.Call (.Attribute (.Name x np) "extend" apos) [e] [] cpos) spos) :=
  weakS (ps_expr (pe_bm (T := "list") F.plainAttrs_list F.slot_list_extend rfl ZG.mt_extG (pe_var hN hv hd hcd) (pa_cons ha pa_nil (by rw [hs]; rfl)) hbase hfew hline (by rw [hs]; rfl) hplain) rfl) fun D σ H ⟨ρ, E, S, fl, E', S', hs, he, hf, k⟩ => by
    obtain ⟨a, xs0, v, S1, ys, xs, h0, h1, h2, h3, h4, rfl, rfl, rfl⟩ := hExt_inv hf
    obtain ⟨c1, c2, c3, c4⟩ := cell_at hs he h0
    obtain ⟨us0, c5, _⟩ := c4.lst'
    refine ⟨_, c1, .inl ⟨rfl, us0, SqL.of c5⟩, ρ, _, S, v, S1, hs, he, h1, fun ρ1 v' H1 l1 s1 ve _ => ?_⟩
    obtain ⟨d1, d2, d3, d4⟩ := cell_at s1 (he.move hs l1) h3
    obtain ⟨us, d5, r⟩ := d4.lst'
    rw [c1] at d1
    have er := Option.some.inj (Option.some.inj d1)
    rw [er]
    obtain ⟨pv, h2a, h2b⟩ := Option.bind_eq_some_iff.mp h2
    obtain ⟨b, zs, rfl, hb, rz⟩ := vrs_seq h2b (ve.stor h2a)
    obtain ⟨s2, l2⟩ := write s1 d3 (o := .lst (us ++ zs)) trivial (c1 := .lst (xs ++ ys)) fun M' H' mv q => .lst q ((r.append rz).move mv)
    exact ⟨_, b, us, zs, rfl, rfl, d5, hb, by rw [← r.length, ← rz.length]; exact h4, (k ρ1 _ (l1.trans l2) s2).nx rfl σ ((he.move hs l1).move s1 l2)⟩
/-! ### name op= -/
def rAug (K : Fg) (op : BOp) : TIp := fun x y H Q => ∃ i j z, x = .int i ∧ y = .int j ∧ (op = .add ∨ op = .sub ∨ op = .mul ∨ op = .fdiv) ∧ binI op i j = some (.int z) ∧ Q (.int z) H
theorem ip_aug (op : BOp) : PIp X (opOf op) (rAug X.K op) := by
  intro pins s σ H x y v u Q I rx ry ⟨i, j, z, ex, ey, ho, e, q⟩
  subst ex ey
  rcases ho with rfl | rfl | rfl | rfl
  · cases e; exact ip_add pins s σ H _ _ v u Q I rx ry ⟨i, j, rfl, rfl, q⟩
  · cases e; exact ip_sub pins s σ H _ _ v u Q I rx ry ⟨i, j, rfl, rfl, q⟩
  · simp only [binI] at e
    split at e
    · rename_i hc
      cases e
      obtain ⟨t, rfl⟩ := rx
      obtain ⟨t', rfl⟩ := ry
      exact PySem.P.imul_int (Q := EP X pins σ Q) ⟨.int _, H, I.tok _, ⟨_, rfl⟩, q⟩ (mulOk_of hc)
    · cases e
  · simp only [binI] at e
    split at e
    · rename_i hc
      cases e
      rw [Bool.and_eq_true] at hc
      have h1 : j ≠ 0 := by simpa using hc.1
      obtain ⟨t, rfl⟩ := rx
      obtain ⟨t', rfl⟩ := ry
      exact AutoIntOps.ifloordiv_1 (by simpa using h1) (by rw [PyProof.noPylong_of_log2 (Nat.le_of_ble_eq_true hc.2)]; exact Bool.false_ne_true) ⟨.int _, H, I.tok _, ⟨_, rfl⟩, q⟩
    · cases e
theorem augP_inv {op : BOp} {p q z : PV} (h : augP op p q = some z) : ∃ i j n, p = .int i ∧ q = .int j ∧ z = .int n ∧ (op = .add ∨ op = .sub ∨ op = .mul ∨ op = .fdiv) ∧ binI op i j = some (.int n) := by
  unfold augP at h
  split at h
  · rename_i i j
    split at h
    · rename_i ho
      have ho' : op = .add ∨ op = .sub ∨ op = .mul ∨ op = .fdiv := by cases op <;> simp_all [augOp]
      have : ∃ n, z = .int n := by
        rcases ho' with rfl | rfl | rfl | rfl <;> simp only [binI] at h
        · exact ⟨_, (Option.some.inj h).symm⟩
        · exact ⟨_, (Option.some.inj h).symm⟩
        · split at h
          · exact ⟨_, (Option.some.inj h).symm⟩
          · cases h
        · split at h
          · exact ⟨_, (Option.some.inj h).symm⟩
          · cases h
      obtain ⟨n, rfl⟩ := this
      exact ⟨i, j, n, rfl, rfl, rfl, ho', h⟩
    · cases h
  · cases h
theorem hAug_inv {i : Nat} {op : BOp} {E E' : Env} {S S' : Store} {fl : Fl} (h : hAug i op fe E S = some (fl, E', S')) : ∃ p v q z, E[i]? = some (some (.v p)) ∧ fe E S = some (v, S') ∧ rd S' v = some q ∧ augP op p q = some z ∧ fl = .next ∧ E' = E.set i (some (.v z)) := by
  simp only [hAug] at h
  repeat' split at h
  all_goals first | (cases h; done) | skip
  simp only [Option.some.injEq, Prod.mk.injEq] at h
  obtain ⟨rfl, rfl, rfl⟩ := h
  exact ⟨_, _, _, _, ‹_›, ‹_›, ‹_›, ‹_›, rfl, rfl⟩
theorem ss_aug {i : Nat} {x : Str} {op : BOp} {pos' : Pos} (hN : X.N.Nodup) (hi : X.N[i]? = some x) (hx : Loc X.env.scope x) (he : SE X fe e) (hf : X.fn x = true ∨ X.env.scope.names.lookup x = some .local) :
    SS X Wc (hAug i op fe) (.AugAssign (.Name x pos') (opOf op) e pos) := weakS (ps_aug hN hi hx he (ip_aug op) hf) fun D σ H ⟨ρ, E, S, fl, E', S', hs, he, hf, k⟩ => by
  obtain ⟨p, v, q, z, h1, h2, h3, h4, rfl, rfl⟩ := hAug_inv hf
  obtain ⟨i1, j1, n, rfl, rfl, rfl, ho, hb⟩ := augP_inv h4
  obtain ⟨u, g1, g2⟩ := he.at_ i _ h1
  cases (show VR X.K (Mu ρ S) H (.int i1) u from g2)
  refine ⟨_, g1, ρ, E, S, v, S', hs, he, h2, fun ρ1 v' H1 l1 s1 ve _ => ?_⟩
  have := (ve.vt s1 h3).int
  exact ⟨i1, j1, n, rfl, this, ho, hb, (k ρ1 H1 l1 s1).nx rfl _ ((he.move hs l1).set (x := .v (.int n)) (VR.int n))⟩
/-! ### stores into lists by place -/
theorem setP_lst {xs : List PV} {k p c : PV} (h : setP (.lst xs) k p = some c) : ∃ i j, k = .int i ∧ pyIx xs.length i = some j ∧ c = .lst (xs.set j p) := by
  have h : setL xs p k = some c := h
  unfold setL at h
  split at h
  · split at h
    · rename_i j e
      cases h
      exact ⟨_, j, rfl, e, rfl⟩
    · cases h
  · cases h
theorem hSeti_inv {i : Nat} {E E' : Env} {S S' : Store} {fl : Fl} (h : hSeti i ge fe E S = some (fl, E', S')) : ∃ v S1 kp S2 p a c c3, fe E S = some (v, S1) ∧ ge E S1 = some (.v kp, S2) ∧ stor v = some p ∧ cellOf E S2 i = some (a, c) ∧ setP c kp p = some c3 ∧ fl = .next ∧ E' = E ∧ S' = S2.set a (.live c3) := by
  simp only [hSeti] at h
  repeat' split at h
  all_goals first | (cases h; done) | skip
  simp only [Option.some.injEq, Prod.mk.injEq] at h
  obtain ⟨rfl, rfl, rfl⟩ := h
  exact ⟨_, _, _, _, _, _, _, _, ‹_›, ‹_›, ‹_›, ‹_›, ‹_›, rfl, rfl, rfl⟩
theorem CV.dicT' {K : Fg} {M : Ml} {H : Hp} {p : Addr} {ks vs : List PV} (h : CV K M H p (.dic true ks vs)) : ∃ xs : RX, H p = some (rawO p xs) ∧ KeyR ks xs ∧ VRs K M H ks (xs.map fun x => V.ref x.2.1) ∧ VRs K M H vs (xs.map fun x => x.2.2) := by
  cases h with | dicT h kr a r => exact ⟨_, h, kr, a, r⟩
theorem setP_dic {t : Bool} {ks vs : List PV} {k p c : PV} (h : setP (.dic t ks vs) k p = some c) : keyOk t k = true ∧ ks.length < line ∧ c = .dic t (dput ks vs k p).1 (dput ks vs k p).2 := by
  have h : (if (keyOk t k && Nat.blt ks.length line) then some (PV.dic t (dput ks vs k p).1 (dput ks vs k p).2) else none) = some c := h
  split at h
  · rename_i q
    rw [Bool.and_eq_true] at q
    cases h
    exact ⟨q.1, Nat.le_of_ble_eq_true q.2, rfl⟩
  · cases h
theorem KeyR.len {ks : List PV} {xs : RX} (k : KeyR ks xs) : xs.length = ks.length := by
  have := congrArg List.length k.2
  simpa using this
/-! ### a store by values into a cell -/
/-- .. into a dict of tuples -/
def rSetR (K : Fg) : TSet := fun o i v H Q => ∃ (a b : Addr) (xs : RX) (M : Ml) (ks : List PV) (kp : PV), o = .ref a ∧ i = .ref b ∧ H a = some (rawO a xs) ∧ KeyR ks xs ∧ VRs K M H ks (xs.map fun x => V.ref x.2.1) ∧ isKeyT kp = true ∧ VR K M H kp (.ref b) ∧ xs.length < sizeLine ∧ Q (upd H a (rawO a (putR xs (nk kp) b v)))
theorem set_raw (hu : X.A.units + 64 < cLine) : PSet X (rSetR X.K) := by
  intro pins s σ H o i v ov iv u Q I r1 r2 r3 ⟨a, b, xs, M, ks, kp, e1, e2, h, kr, ka, hk, hb, hl, q⟩
  subst e1; subst e2
  cases r1
  cases r2
  exact raw_set hu I h (keys_at I kr ka) (key_at I hb hk) (plain_nk kp (isKeyT_nk hk).1) hl r3 fun s' I' => ⟨_, I', q⟩
def rSet (K : Fg) : TSet := fun o i v H Q => (rSetL o i v H Q ∨ rSetD o i v H Q) ∨ rSetR K o i v H Q
theorem set_any (hu : X.A.units + 64 < cLine) : PSet X (rSet X.K) := fun pins s σ H o i v ov iv u Q I r1 r2 r3 h => h.elim (fun h => h.elim (set_list pins s σ H o i v ov iv u Q I r1 r2 r3) (set_dict (by omega) pins s σ H o i v ov iv u Q I r1 r2 r3)) (set_raw hu pins s σ H o i v ov iv u Q I r1 r2 r3)
theorem setC {K : Fg} {ρ : Rh} {S : Store} {H : Hp} {a : Nat} {c kp p c3 : PV} {kv v : V} (s : Sim K ρ S H) (e : S[a]? = some (.live c)) (h : setP c kp p = some c3) (hk : VR K (Mu ρ S) H kp kv) (hv : VR K (Mu ρ S) H p v) :
    ∃ H', (∀ Q : Hp → Prop, Q H' → rSet K (.ref (ρ a)) kv v H Q) ∧ Sim K ρ (S.set a (.live c3)) H' ∧ Le ρ S H ρ (S.set a (.live c3)) H' := by
  cases c with
  | lst xs =>
    obtain ⟨i, j, rfl, h1, rfl⟩ := setP_lst h
    cases hk
    obtain ⟨us, h2, r⟩ := (s.cell a _ ⟨_, e, rfl⟩).lst'
    obtain ⟨s2, l2⟩ := write s e (o := .lst (us.set j v)) trivial (c1 := .lst (xs.set j p)) fun M' H' mv q => .lst q ((r.set hv j).move mv)
    exact ⟨_, fun Q q => .inl (.inl ⟨_, us, i, j, rfl, rfl, h2, by rw [← r.length]; exact h1, q⟩), s2, l2⟩
  | dic t ks vs =>
    obtain ⟨h1, h2, rfl⟩ := setP_dic h
    cases t with
    | false =>
      have h1 : isKey kp = true := h1
      obtain ⟨kvs, h3, rfl, r⟩ := (s.cell a _ ⟨_, e, rfl⟩).dic'
      have ek := keyOf_pv h1
      have ev := key_v h1 hk
      have dk := dput_ok (k := keyOf kp) hv kvs vs r
      rw [ek] at dk
      obtain ⟨s2, l2⟩ := write s e (o := .dK (putK kvs (keyOf kp) v)) trivial (c1 := .dic false (dput (kvs.map fun kv => keyPV kv.1) vs kp p).1 (dput (kvs.map fun kv => keyPV kv.1) vs kp p).2) fun M' H' mv q => by
        rw [dk.1]
        exact .dicK q (dk.2.move mv)
      refine ⟨_, fun Q q => .inl (.inr ⟨_, _, rfl, ?_, q⟩), s2, l2⟩
      rw [ev]
      exact .k h3 (by rw [List.length_map] at h2; exact h2)
    | true =>
      have h1 : isKeyT kp = true := h1
      obtain ⟨xs, h3, kr, ka, r⟩ := (s.cell a _ ⟨_, e, rfl⟩).dicT'
      obtain ⟨b, rfl⟩ := keyT_ref h1 hk
      obtain ⟨d1, d2, d3⟩ := dputT h1 hk hv kr ka r
      obtain ⟨s2, l2⟩ := write s e (o := rawO (ρ a) (putR xs (nk kp) b v)) trivial (c1 := .dic true (dput ks vs kp p).1 (dput ks vs kp p).2) fun M' H' mv q => .dicT q d1 (d2.move mv) (d3.move mv)
      exact ⟨_, fun Q q => .inr ⟨_, b, xs, _, ks, kp, rfl, rfl, h3, kr, ka, h1, hk, by rw [kr.len, ← line_eq]; exact h2, q⟩, s2, l2⟩
  | _ => simp [setP] at h
theorem gPop_inv {E : Env} {S S' : Store} {i : Nat} {v : EV} (h : gPop E i S = some (v, S')) : ∃ a xs y, cellOf E S i = some (a, .lst xs) ∧ xs[xs.length - 1]? = some y ∧ v = toR y ∧ S' = S.set a (.live (.lst xs.dropLast)) := by
  simp only [gPop] at h
  repeat' split at h
  all_goals first | (cases h; done) | skip
  cases h
  exact ⟨_, _, _, ‹_›, ‹_›, rfl, rfl⟩
theorem VRs.dropLast {K : Fg} {M : Ml} {H : Hp} : ∀ {x : List PV} {v : List V}, VRs K M H x v → VRs K M H x.dropLast v.dropLast
  | _, _, .nil => .nil
  | _, _, .cons h .nil => .nil
  | _, _, .cons h (.cons a b) => .cons h (VRs.dropLast (.cons a b))
theorem se_pop {i : Nat} {x : Str} {np apos cpos : Pos} (hN : X.N[i]? = some x) (hv : Vis X.env.scope x) (hd : (x == ("__debug__" : Str)) = false) (hcd : (x == ("__classdict__" : Str)) = false)
    (hbase : attributeBase (.Name x np) "pop" X.env (eval (.Name x np) X.env) = eval (.Name x np) X.env) (hline : (apos.endLine == cpos.line) = true) :
    SE X (fun E => gPop E i) (.Call (.Attribute (.Name x np) "pop" apos) [] [] cpos) :=
  weakE (pe_bm0 (T := "list") F.plainAttrs_list F.slot_list_pop rfl mt_pop (pe_var hN hv hd hcd) hbase hline) fun σ H Q ⟨ρ, E, S, v, S', hs, he, hf, k⟩ => by
    obtain ⟨a, xs, y, h0, h1, rfl, rfl⟩ := gPop_inv hf
    obtain ⟨c1, c2, c3, c4⟩ := cell_at hs he h0
    obtain ⟨us, c5, r⟩ := c4.lst'
    obtain ⟨u, g1, g2⟩ := r.get h1
    obtain ⟨s2, l2⟩ := write hs c3 (o := .lst us.dropLast) trivial (c1 := .lst xs.dropLast) fun M' H' mv q => .lst q (r.dropLast.move mv)
    refine ⟨_, c1, .inl ⟨rfl, us, SqL.of c5⟩, _, us, u, rfl, rfl, c5, by rw [← r.length]; exact g1, ?_⟩
    exact k ρ _ _ l2 s2 ((VE.toR g2).move hs l2) New.toR
theorem ss_seti {i : Nat} {x : Str} {np tpos : Pos} {k : Expr} (hu : X.A.units + 64 < cLine) (hN : X.N[i]? = some x) (hv : Vis X.env.scope x) (hd : (x == ("__debug__" : Str)) = false) (hcd : (x == ("__classdict__" : Str)) = false) (he : SE X fe e) (hk : SE X ge k)
    (ha : ∀ v, assign (.Subscript (.Name x np) k tpos) X.env v = (do
      let ov ← holding [v] (eval (.Name x np) X.env)
      let iv ← holding [v, ov] (eval k X.env)
      standAt tpos
      holding [v, ov, iv] (setItem ov iv v)
      release [v, ov, iv] [])) (hs : swapsWithSole [.Subscript (.Name x np) k tpos] e pos.line X.env = pure false) (hw : swappedStores [.Subscript (.Name x np) k tpos] e X.env = pure none)
    (h1 : (assignEach [.Subscript (.Name x np) k tpos] X.env).map (·.2) = [assign (.Subscript (.Name x np) k tpos) X.env]) :
    SS X Wc (hSeti i ge fe) (.Assign [.Subscript (.Name x np) k tpos] e pos) :=
  weakS (ps_asg he (pg_sub (pe_var hN hv hd hcd) hk (set_any hu) ha) hs hw h1) fun D σ H ⟨ρ, E, S, fl, E', S', hs, he, hf, kk⟩ => by
    obtain ⟨v, S1, kp, S2, p, a, c, c3, h1, h2, h3, h4, h5, rfl, rfl, rfl⟩ := hSeti_inv hf
    refine ⟨ρ, _, S, v, S1, hs, he, h1, fun ρ1 v' H1 l1 s1 ve _ => ?_⟩
    have e1 := he.move hs l1
    obtain ⟨w1, w2⟩ := cellOf_inv h4
    obtain ⟨u, g1, g2, g3⟩ := e1.at_ i _ w1
    subst g2
    refine ⟨_, g1, ρ1, _, S1, _, S2, s1, e1, h2, fun ρ2 k' H2 l2 s2 vk _ => ?_⟩
    obtain ⟨H3, q3, s3, l3⟩ := setC s2 w2 h5 vk ((ve.move s1 l2).stor h3)
    have er := l2.eq a g3
    rw [← er]
    exact q3 _ ((kk ρ2 H3 ((l1.trans l2).trans l3) s3).nx rfl σ ((e1.move s1 l2).move s2 l3))
/-! ### o[i] op= -/
def rGet (K : Fg) : V → V → Hp → VK → Prop := fun o i H Q => (∃ p xs k j z, o = .ref p ∧ i = .int k ∧ SqL K H p xs ∧ ixN xs.length k = some j ∧ xs[j]? = some z ∧ Q z H) ∨ (∃ a v, o = .ref a ∧ DGet H a i (some v) ∧ Q v H) ∨ ∃ (a b : Addr) (xs : RX) (M : Ml) (ks : List PV) (kp : PV) (v : V), o = .ref a ∧ i = .ref b ∧ Rd H a (rawO a xs) ∧ KeyR ks xs ∧ VRs K M H ks (xs.map fun x => V.ref x.2.1) ∧ isKeyT kp = true ∧ VR K M H kp (.ref b) ∧ valR xs (nk kp) = some v ∧ Q v H
theorem get_any (hu : X.A.units + 64 < cLine) : PGet X (rGet X.K) := by
  intro pins s σ H o i ov iv Q I ro ri h
  rcases h with ⟨p, xs, k, j, z, rfl, rfl, hq, hj, hz, q⟩ | ⟨a, v, rfl, g, q⟩ | ⟨a, b, xs, M, ks, kp, v, e1, e2, e, kr, ka, hk, hb, l, q⟩
  · cases ro
    obtain ⟨t, rfl⟩ := ri
    obtain ⟨its, r, pl, hsz⟩ := I.list hq
    obtain ⟨h1, h2, h3, h4⟩ := ixN_seq hj
    obtain ⟨w, ew, rw'⟩ := r.get hz
    have hl := r.length
    have hn := line63
    have fin : EP X pins σ Q w s := ⟨z, H, I, rw', q⟩
    by_cases h0 : 0 ≤ k
    · have hj : k.toNat = j := by
        rw [seqIndex_of h0 h4] at h1
        exact Option.some.inj h1
      exact wpAny_getItem_list pl.isList h0 (by omega) (by rw [hj]; simpa using ew) fin
    · have hj : (k + (its.toArray.size : Int)).toNat = j := by
        rw [seqIndex_neg (by omega) h3] at h1
        rw [List.size_toArray, ← hl]
        exact Option.some.inj h1
      exact wpAny_getItem_list_neg pl.isList (by omega) (by rw [List.size_toArray] <;> omega) (by omega) (by rw [hj]; simpa using ew) fin
  · cases ro
    exact d_getItem (by omega) I g ri fun w' s' I' rw' => ⟨v, H, I', rw', q⟩
  · subst e1; subst e2
    cases ro
    cases ri
    exact raw_get hu I e (keys_at I kr ka) (key_at I hb hk) l fun w' s' I' rw' => ⟨v, H, I', rw', q⟩
/-- what stands at a place of a cell -/
theorem getC {K : Fg} {ρ : Rh} {S : Store} {H : Hp} {a : Nat} {c kp z : PV} {kv : V} (s : Sim K ρ S H) (e : S[a]? = some (.live c)) (h : ixC c kp = some z) (hk : VR K (Mu ρ S) H kp kv) :
    ∃ v, VR K (Mu ρ S) H z v ∧ ∀ Q : VK, Q v H → rGet K (.ref (ρ a)) kv H Q := by
  have cv := s.cell a _ ⟨_, e, rfl⟩
  cases cv with
  | @lst xs us h1 r =>
    unfold ixC at h
    unfold ixP at h
    split at h
    · rename_i e1; cases e1
    · split at h
      · rename_i e1
        cases e1
        cases hk
        rename_i i
        cases e' : pyIx xs.length i with
        | none => rw [e'] at h; cases h
        | some j =>
          rw [e'] at h
          obtain ⟨b, hb, rb⟩ := r.get (i := j) (a := z) (by exact h)
          exact ⟨b, rb, fun Q q => .inl ⟨_, us, i, j, b, rfl, rfl, SqL.of h1, by rw [← r.length]; exact e', hb, q⟩⟩
      all_goals first | (rename_i e1; cases e1; done) | cases h
  | @dicK vs kvs h1 r =>
    simp only [ixC] at h
    split at h
    · rename_i hq
      have ek := keyOf_pv hq
      have ev := key_v hq hk
      rw [← ek] at h
      obtain ⟨v, g1, g2⟩ := dget_ok kvs vs r h
      exact ⟨v, g2, fun Q q => .inr (.inl ⟨_, v, rfl, by rw [ev]; rw [← g1]; exact .k h1, q⟩)⟩
    · cases h
  | @dicT ks vs xs h1 kr ka r =>
    simp only [ixC] at h
    split at h
    · rename_i hq
      have hq : isKeyT kp = true := hq
      have dg := dgetT hq kr r
      rw [h] at dg
      obtain ⟨v, g1, g2⟩ := dg
      obtain ⟨b, rfl⟩ := keyT_ref hq hk
      exact ⟨v, g2, fun Q q => .inr (.inr ⟨_, b, xs, _, ks, kp, v, rfl, rfl, .inl h1, kr, ka, hq, hk, g1, q⟩)⟩
    · cases h
theorem hAugi_inv {i : Nat} {op : BOp} {E E' : Env} {S S' : Store} {fl : Fl} (h : hAugi i ge op fe E S = some (fl, E', S')) : ∃ kp S1 a c old q S2 z a2 c2 c3, ge E S = some (.v kp, S1) ∧ cellOf E S1 i = some (a, c) ∧ ixC c kp = some old ∧ fe E S1 = some (.v q, S2) ∧ augP op old q = some z ∧ cellOf E S2 i = some (a2, c2) ∧ setP c2 kp z = some c3 ∧ fl = .next ∧ E' = E ∧ S' = S2.set a2 (.live c3) := by
  simp only [hAugi] at h
  repeat' split at h
  all_goals first | (cases h; done) | skip
  simp only [Option.some.injEq, Prod.mk.injEq] at h
  obtain ⟨rfl, rfl, rfl⟩ := h
  exact ⟨_, _, _, _, _, _, _, _, _, _, _, ‹_›, ‹_›, ‹_›, ‹_›, ‹_›, ‹_›, ‹_›, rfl, rfl, rfl⟩
theorem ss_augi {i : Nat} {x : Str} {op : BOp} {np tpos : Pos} {k : Expr} (hu : X.A.units + 64 < cLine) (hN : X.N[i]? = some x) (hv : Vis X.env.scope x) (hd : (x == ("__debug__" : Str)) = false) (hcd : (x == ("__classdict__" : Str)) = false) (he : SE X fe e) (hk : SE X ge k)
    (ha : ∀ ov iv new, augStore k ov iv new = (do holding [new, ov, iv] (setItem ov iv new); release [new, ov, iv] []; pure .next)) : SS X Wc (hAugi i ge op fe) (.AugAssign (.Subscript (.Name x np) k tpos) (opOf op) e pos) :=
  weakS (ps_augS (pe_var hN hv hd hcd) hk (get_any hu) he (ip_aug op) (set_any hu) ha) fun D σ H ⟨ρ, E, S, fl, E', S', hs, he, hf, kk⟩ => by
    obtain ⟨kp, S1, a, c, old, q, S2, z, a2, c2, c3, h1, h2, h3, h4, h5, h6, h7, rfl, rfl, rfl⟩ := hAugi_inv hf
    obtain ⟨w1, w2⟩ := cellOf_inv h2
    obtain ⟨u, g1, g2, g3⟩ := he.at_ i _ w1
    subst g2
    refine ⟨_, g1, ρ, _, S, _, S1, hs, he, h1, fun ρ1 k' H1 l1 s1 vk _ => ?_⟩
    have e1 := he.move hs l1
    have er1 := l1.eq a g3
    obtain ⟨ov, r1, q1⟩ := getC s1 w2 h3 vk
    rw [← er1]
    refine q1 _ ⟨ρ1, _, S1, _, S2, s1, e1, h4, fun ρ2 v' H2 l2 s2 ve _ => ?_⟩
    obtain ⟨i1, j1, n, rfl, rfl, rfl, ho, hb⟩ := augP_inv h5
    cases r1
    cases (show VR X.K (Mu ρ2 S2) H2 (.int j1) v' from ve)
    obtain ⟨w3, w4⟩ := cellOf_inv h6
    rw [w1] at w3
    cases w3
    obtain ⟨H3, q3, s3, l3⟩ := setC s2 w4 h7 (VR.move (l2.move s1) vk) (VR.int n)
    have er2 := l2.eq a (Nat.lt_of_lt_of_le g3 l1.len)
    refine ⟨i1, j1, n, rfl, rfl, ho, hb, ?_⟩
    rw [← er2]
    exact q3 _ ((kk ρ2 H3 ((l1.trans l2).trans l3) s3).nx rfl σ ((e1.move s1 l2).move s2 l3))
end
end Py

set_option Elab.async false
set_option linter.all false
set_option maxRecDepth 100000
set_option maxHeartbeats 4000000
/-! x[::-1] of a tuple and of a text -/
namespace HT
open PySem PySem.Spec PyProof.Rows
section
variable {prog : Program} {w : World} {A : Around} {E : Value → Shared → Prop} {s : Shared}
theorem rev_adjust (n : Nat) : Builtin.Slice.sliceAdjust none none (-1) (n : Int) = ((n : Int) - 1, -1) := rfl
theorem rev_places (n : Nat) : Builtin.Slice.slicePlaces ((n : Int) - 1) (-1) (-1) = n := by
  unfold Builtin.Slice.slicePlaces
  rw [if_neg (by decide)]
  rw [show (-(-1 : Int)) = 1 by decide, Int.ediv_one]
  split <;> omega
theorem sliceApplied_rev {sl : Addr} {vs : Value} {n : Nat} {Q : Int × Int × Nat → Shared → Prop} (hs : s.heap.IsSliceOf sl .none .none vs) (ps : IsPart vs (some (-1)))
    (h : Q ((n : Int) - 1, -1, n) s) : wpAny (model prog w) A (Builtin.Slice.sliceApplied (.ref sl) (pure (n : Int))) Q E s := by
  obtain ⟨os, hos, hcs, hds⟩ := id hs
  unfold Builtin.Slice.sliceApplied Builtin.Slice.sliceFields
  refine wpAny_bind (wpAny_bind (wpAny_field hos hds (x := .none) rfl (wpAny_bind (wpAny_field hos hds (x := .none) rfl (wpAny_bind (wpAny_field hos hds (x := vs) rfl (wpAny_pure ?_)))))))
  refine wpAny_bind (slicePart_ ps ?_)
  show wpAny _ _ (if ((-1 : Int) == 0) = true then _ else _) _ _ s
  rw [if_neg (by decide)]
  refine wpAny_bind (slicePart_none (wpAny_bind (slicePart_none (wpAny_bind (wpAny_pure ?_)))))
  show wpAny _ _ (match Builtin.Slice.sliceAdjust none none (-1) (n : Int) with | (lo, hi) => pure (lo, (-1 : Int), Builtin.Slice.slicePlaces lo hi (-1))) _ _ s
  rw [rev_adjust n]
  show wpAny _ _ (pure ((n : Int) - 1, (-1 : Int), Builtin.Slice.slicePlaces ((n : Int) - 1) (-1) (-1))) _ _ s
  rw [rev_places]
  exact wpAny_pure h
theorem pick_rev (xs : Array Value) : ((List.range xs.size).filterMap fun (m : Nat) => xs[(((xs.size : Nat) : Int) - 1 + (m : Int) * (-1)).toNat]?).toArray = xs.toList.reverse.toArray := by
  have e : (List.range xs.size).filterMap (fun (m : Nat) => xs[(((xs.size : Nat) : Int) - 1 + (m : Int) * (-1)).toNat]?) = ((List.range xs.size).map fun k => xs.size - 1 - k).filterMap (xs[·]?) := by
    rw [List.filterMap_map]
    congr 1
    funext m
    show _ = xs[xs.size - 1 - m]?
    by_cases hz : xs.size = 0
    · rw [Array.getElem?_eq_none (by omega), Array.getElem?_eq_none (by omega)]
    · congr 1
      omega
  rw [e, PySem.W.krv_range, List.filterMap_reverse, PySem.W.krv_all]
theorem getItem_tuple_rev {t sl : Addr} {items : Array Value} {vs : Value} {Q : Value → Shared → Prop} (ht : IsTup s.heap t items) (hs : s.heap.IsSliceOf sl .none .none vs) (ps : IsPart vs (some (-1)))
    (h : Q (.ref s.heap.objs.size) { s with heap := s.heap.push { cls := .type "tuple", data := .seq items.toList.reverse.toArray } })
    (hsz : items.size ≤ sizeLine) : wpAny (model prog w) A (getItem (.ref t) (.ref sl)) Q E s := by
  have htake : sizeOk (.seq items.toList.reverse.toArray) := by
    show items.toList.reverse.toArray.size ≤ sizeLine
    rw [List.size_toArray, List.length_reverse, Array.length_toList]
    exact hsz
  obtain ⟨os, hos, hcs, hds⟩ := id hs
  have hTs : s.TypeIs (.ref sl) "slice" := ⟨os, hos, hcs⟩
  unfold getItem
  try with_reducible refine wpAny_holding ?_
  first | refine wpAny_bind (wpAny_pure ?_) | skip
  refine wpAny_bind (wpAny_sequenceKey ht.typeIs (by decide) ?_)
  refine wpAny_bind (wpAny_callSpecial?_slot (name := Str.ofString "__getitem__") ht.typeIs PyProof.Rows.slot_tuple_getitem
    (wpAny_call_entry PyProof.Rows.slot_tuple_getitem ht.typeIs entry_tuple_getitem ?_ (args_tuple_getitem _ _)))
  show wpAny _ _ (Builtin.Tuple.tupleItemsOf (.ref t) >>= _) _ _ s
  refine wpAny_bind (tupleItemsOf_ ht ?_)
  refine wpAny_bind (wpAny_typeOf hTs ?_)
  rw [if_pos (by decide)]
  refine wpAny_bind (sliceApplied_rev hs ps ?_)
  have hno : ¬ ((((items.size : Nat) : Int) - 1 == 0 && (-1 : Int) == 1 && items.size == items.size) = true) := by
    intro q
    rw [Bool.and_eq_true, Bool.and_eq_true] at q
    exact absurd (eq_of_beq q.1.2) (by decide)
  show wpAny _ _ (if (((items.size : Nat) : Int) - 1 == 0 && (-1 : Int) == 1 && items.size == items.size) = true then _ else _) _ _ s
  rw [if_neg hno, pick_rev]
  first
    | exact wpAny_bind (m := Builtin.Tuple.tupleExact _) (wpAny_newObj_type (wpAny_pure ⟨_, rfl, wpAny_pure h⟩) htake)
    | exact wpAny_bind (m := Builtin.Tuple.tupleExact _) (wpAny_newObj_type (wpAny_bind (wpAny_pure (wpAny_pure ⟨_, rfl, wpAny_pure h⟩))) htake)
    | exact wpAny_bind (wpAny_bind (m := Builtin.Tuple.tupleExact _) (wpAny_newObj_type (wpAny_pure (wpAny_pure ⟨_, rfl, wpAny_pure h⟩)) htake))
    | exact wpAny_bind (wpAny_bind (m := Builtin.Tuple.tupleExact _) (wpAny_newObj_type (wpAny_pure ⟨_, rfl, wpAny_pure h⟩) htake))
theorem str_picked (x : Str) (t : Tok) (k : Tok) : (sliceMade x t none none (some (-1, k))) = .str ⟨x.cps.toList.reverse.toArray⟩ := by
  unfold sliceMade
  rw [if_neg (by rw [Bool.and_eq_true]; intro z; exact absurd (show ((-1 : Int) = 1) from eq_of_beq z.1) (by decide))]
  congr 2
  have e : slicePicked x none none (some (-1, k)) = (List.range x.cps.size).map fun k => x.cps.size - 1 - k := by
    show Builtin.Str.strSliceIndices none none (-1) x.length = _
    unfold Builtin.Str.strSliceIndices
    exact PySem.W.krv_sliceRange x.length
  rw [e, PySem.W.krv_range, List.filterMap_reverse, PySem.W.krv_all]
end
end HT
namespace Py
open PySem PySem.Spec PyProof.Rows L2
section
variable {X : Cx} {f : RE} {a e : Expr} {te : TE} {pos : Pos} {K : Fg} {M : Ml} {H : Hp}
def rRev (K : Fg) : V → Hp → VK → Prop := fun x H Q => ∃ M p z, MutOk M H ∧ VT K M H p x ∧ revP p = some z ∧ ZR K M H z Q
theorem okS.rev {x : List Nat} (h : okS x) : okS x.reverse := ⟨fun c hc => h.1 c (List.mem_reverse.mp hc), by rw [List.length_reverse]; exact h.2⟩
theorem pe_rev {e : Expr} {te : TE} {k : Nat} {p1 p2 p3 pos : Pos} (he : PE X e te) : PE X (.Subscript e (.Slice none none (some (.UnaryOp .USub (.Constant (.int 1) k p1) p2)) p3) pos) (fun σ H Q => te σ H fun x H1 => rRev X.K x H1 Q) := by
  refine ⟨fun pins s σ H Q I h => ?_⟩
  refine Subscript_ (thn (he.run pins s σ H _ I h) fun v s1 ⟨x, H1, I1, r1, q1⟩ => ?_)
  obtain ⟨M, p, z, mo, vt, e1, k1⟩ := q1
  have hst : PO X (some (.UnaryOp .USub (.Constant (.int 1) k p1) p2)) (tPart (tUn (rU fun i => .int (-i)) (tC (.int 1)))) := po_some (pe_un un_neg pe_int)
  refine wpAny_Slice (thn (po_none.run pins s1 σ H1 (fun o H2 => o = none ∧ H2 = H1) I1 ⟨rfl, rfl⟩) fun vl s2 ⟨l, H2, I2, pl, el, e2⟩ => ?_)
  subst el e2
  refine thn (po_none.run pins s2 σ H2 (fun o H3 => o = none ∧ H3 = H2) I2 ⟨rfl, rfl⟩) fun vu s3 ⟨u, H3, I3, pu, eu, e3⟩ => ?_
  subst eu e3
  refine thn (hst.run pins s3 σ H3 (fun o H4 => o = some (-1) ∧ H4 = H3) I3 ⟨1, rfl, -1, rfl, rfl, rfl⟩) fun vs s4 ⟨o, H4, I4, ps, eo, e4⟩ => ?_
  subst eo e4
  have I5 : Inv X pins σ H4 { s4 with heap := s4.heap.push { cls := .type "slice", data := .fields #[vl, vu, vs] } } := I4.kept (t' := s4.toks) fun b ob q => Heap.get?_push_of_some _ q
  show wpAny (model X.prog X.w) X.A (subscriptTail e (.Slice none none (some (.UnaryOp .USub (.Constant (.int 1) k p1) p2)) p3) v (.ref s4.heap.objs.size)) (EP X pins σ Q) X.xe { s4 with heap := s4.heap.push { cls := .type "slice", data := .fields #[vl, vu, vs] } }
  cases pl
  cases pu
  unfold revP at e1
  split at e1
  · cases e1
    obtain ⟨a, xs, rfl, h1, r1'⟩ := vt.lst'
    cases r1
    obtain ⟨its, r, ht, hz⟩ := I5.list (SqL.of h1)
    have hlen := r.length
    refine tail_any (ops := [.ref a, .ref s4.heap.objs.size]) ht.isList.typeIs (PySem.slot_list_getitem.lookup) ?_ (by with_unfolding_all rfl)
    refine wpAny_getItem_list_slice ht.isList (Heap.IsSliceOf.new _ .none .none vs) .none .none ps (by decide) ?_ (by rw [List.size_toArray]; omega)
    rw [PySem.W.krv_pick]
    refine ⟨.ref _, _, I5.laid (t' := s4.toks) (o := .lst xs.reverse) (fun b ob q => Heap.get?_push_of_some _ q) (Nat.le_refl _) ?_, rfl, ZR.lst mo r1'.reverse k1 _ (I5.hok.fresh (Nat.le_refl _))⟩
    exact ⟨by rw [List.length_reverse]; exact hz, _, 0, r.reverse, Heap.get?_push_size _ rfl⟩
  · cases e1
    obtain ⟨a, xs, rfl, h1, r1'⟩ := vt.tup
    cases r1
    obtain ⟨its, r, ht, hz⟩ := I5.tuple h1
    have hlen := r.length
    refine tail_any (ops := [.ref a, .ref s4.heap.objs.size]) ht.typeIs (PyProof.Rows.slot_tuple_getitem.lookup) ?_ (by with_unfolding_all rfl)
    refine HT.getItem_tuple_rev ht (Heap.IsSliceOf.new _ .none .none vs) ps ?_ (by rw [List.size_toArray]; omega)
    refine ⟨.ref _, _, I5.laid (t' := s4.toks) (o := .tup xs.reverse) (fun b ob q => Heap.get?_push_of_some _ q) (Nat.le_refl _) ?_, rfl, ZR.tup mo r1'.reverse k1 _ (I5.hok.fresh (Nat.le_refl _))⟩
    exact ⟨by rw [List.length_reverse]; exact hz, _, r.reverse, IsTup.new _ _⟩
  · rename_i zs
    cases e1
    obtain ⟨rfl, ok⟩ := vt.str
    obtain ⟨t, rfl⟩ := r1
    refine tail_any (ops := [.ref s4.heap.objs.size, .str ⟨zs.toArray⟩ t]) (typeIs_str { s4 with heap := s4.heap.push { cls := .type "slice", data := .fields #[.none, .none, vs] } } ⟨zs.toArray⟩ t) (PySem.F.slot_str_getitem.lookup) ?_ (by with_unfolding_all rfl)
    cases ps with
    | int i u =>
      refine wpAny_getItem_str_slice (l := none) (u := none) (st := some (-1, u)) ⟨_, Heap.get?_push_size _ rfl, rfl, rfl⟩ rfl ?_
      rw [HT.str_picked]
      refine ⟨?_, .str ⟨zs.reverse.toArray⟩, H4, I5.tok _, ⟨s4.toks, by simp⟩, ZR.val (.str _ ok.rev) k1⟩
      show Array.size _ ≤ _
      simp
      exact ok.2
  · cases e1
theorem se_rev {k : Nat} {p1 p2 p3 : Pos} (ha : SE X f a) : SE X (fun E => gRev (f E)) (.Subscript a (.Slice none none (some (.UnaryOp .USub (.Constant (.int 1) k p1) p2)) p3) pos) := by
  refine weakE (pe_rev ha) fun σ H Q ⟨ρ, E, S, v, S', hs, he, hf, k⟩ => ?_
  obtain ⟨x, p, h1, h2, h3⟩ := gRev_inv hf
  exact ⟨ρ, E, S, x, S', hs, he, h1, fun ρ1 x' H1 l1 s1 vx nx => ⟨_, p, v, s1.mutOk, vx.vt s1 h2, h3, zr_of s1 l1 k⟩⟩
end
end Py

set_option Elab.async false
set_option linter.all false
set_option maxRecDepth 100000
set_option maxHeartbeats 4000000
namespace Py
open PySem PySem.Spec PyProof.Rows L2
/-! ### isinstance -/
def tyN : PV → String
  | .non => "NoneType" | .bl _ => "bool" | .int _ => "int" | .str _ => "str" | .tup _ => "tuple" | .lst _ => "list" | .dic _ _ _ => "dict" | .scr _ => "list" | .cel _ => "none"
def tyS : Ty → String
  | .int => "int" | .bool => "bool" | .str => "str" | .tuple => "tuple" | .list => "list" | .dict => "dict"
theorem kit_eq (t : Ty) (p : PV) (nc : isCel p = false) : kitB (tyN p) (tyS t) = some (isT t p) := by
  cases t <;> cases p <;> first | (cases nc; done) | (simp only [tyN, tyS, isT]; decide +kernel)
theorem VT.ty {K : Fg} {M : Ml} {H : Hp} {p : PV} {v : V} (nc : isCel p = false) (h : VT K M H p v) : TyX K H v (.type (tyN p)) := by
  cases h with
  | of h => cases h with
    | non => exact .base .non
    | bl b => exact .base (.bl b)
    | int i => exact .base (.int i)
    | str x _ => exact .base (.str _)
    | tup h _ =>
      rcases h with (h | ⟨o, h⟩) | ⟨o, its, n, h, hc, _⟩
      · exact .base (.tup h)
      · exact .fTuple h
      · exact .kTuple h hc
    | lst h _ _ => exact .base (.lst h)
    | dicK h _ _ => exact .base (.dK h)
    | dicT _ _ _ _ _ => cases nc
    | scr h _ => exact .base (.frz h)
    | scrK h _ =>
      rcases h (fun _ => none) with (h | ⟨o, h⟩) | ⟨o, its, n, h, hc, _⟩
      · cases h
      · cases h
      · exact .kList h hc
    | cel _ => cases nc
  | lst h _ => exact .base (.lst h)
  | dicK h _ => exact .base (.dK h)
  | dicT _ _ _ _ => cases nc
section
variable {X : Cx} {f g : RE} {a b o e : Expr} {pos : Pos}
theorem ty_boot (t : Ty) : bootBuiltins (Str.ofString (tyS t)) = some (.type (tyS t)) ∧ Str.ofString (tyS t) ≠ "__name__" ∧ (Str.ofString (tyS t) == ("__debug__" : Str)) = false := by cases t <;> decide +kernel
theorem pe_ty {t : Ty} {p : Pos} (hg : Gl X (Str.ofString (tyS t))) (hm : X.mg (Str.ofString (tyS t)) = none) : PE X (.Name (Str.ofString (tyS t)) p) (tC (.ty (tyS t))) :=
  pe_bltn hg hm (ty_boot t).1 rfl (ty_boot t).2.1 (ty_boot t).2.2
theorem gIsi_inv {S S' : Store} {ts : List Ty} {h : R1} {v : EV} (q : gIsi ts h S = some (v, S')) : ∃ x p, h S = some (x, S') ∧ rd S' x = some p ∧ isCel p = false ∧ v = .v (.bl (ts.any fun t => isT t p)) := by
  simp only [gIsi] at q
  repeat' split at q
  all_goals first | (cases q; done) | (simp only [Option.some.injEq, Prod.mk.injEq] at q; obtain ⟨rfl, rfl⟩ := q; exact ⟨_, _, ‹_›, ‹_›, ‹_›, rfl⟩)
theorem boot_isi : bootBuiltins "isinstance" = some (.builtin "isinstance") := by decide +kernel
theorem se_isi1 {t : Ty} {p p2 : Pos} (hg0 : Gl X "isinstance") (hm0 : X.mg "isinstance" = none) (hg : Gl X (Str.ofString (tyS t))) (hm : X.mg (Str.ofString (tyS t)) = none) (ha : SE X f a)
    (he : starEach [a, .Name (Str.ofString (tyS t)) p2] X.env = (false, eval a X.env) :: starEach [.Name (Str.ofString (tyS t)) p2] X.env) (hpl : (backTo pos (starEach [.Name (Str.ofString (tyS t)) p2] X.env)).any (·.1) = false) :
    SE X (fun E => gIsi [t] (f E)) (.Call (.Name "isinstance" p) [a, .Name (Str.ofString (tyS t)) p2] [] pos) :=
  weakE (pe_callB call_isi hg0 hm0 boot_isi (pa_cons ha (pa_cons (pe_ty hg hm) pa_nil rfl) he) (by decide +kernel) (by decide +kernel) he hpl) fun σ H Q ⟨ρ, E, S, v, S', hs, he, hf, k⟩ => by
    obtain ⟨x, p, h1, h2, nc, rfl⟩ := gIsi_inv hf
    refine ⟨ρ, E, S, x, S', hs, he, h1, fun ρ1 x' H1 l1 s1 vx _ => ⟨_, _, _, _, isT t p, rfl, .ty _, (vx.vt s1 h2).ty nc, kit_ty (kit_eq t p nc), ?_⟩⟩
    have := k ρ1 (.bl (isT t p)) H1 l1 s1 (by show VR X.K _ _ (.bl ([t].any fun t => isT t p)) _; rw [List.any_cons, List.any_nil, Bool.or_false]; exact .bl _) trivial
    exact this
def nameIs (x : Str) : Expr → Bool
  | .Name y _ => decide (y = x)
  | _ => false
theorem nameIs_inv {x : Str} {e : Expr} (h : nameIs x e = true) : ∃ p, e = .Name x p := by
  unfold nameIs at h
  split at h
  · exact ⟨_, by rw [of_decide_eq_true h]⟩
  · cases h
def tysOk : List Ty → List Expr → Bool
  | [], [] => true
  | t :: ts, e :: es => nameIs (Str.ofString (tyS t)) e && tysOk ts es
  | _, _ => false
theorem pa_tys : ∀ (ts : List Ty) (es : List Expr), tysOk ts es = true → (∀ t ∈ ts, Gl X (Str.ofString (tyS t)) ∧ X.mg (Str.ofString (tyS t)) = none) → PA X es (fun _ H Q => Q (ts.map fun t => .ty (tyS t)) H)
  | [], [], _, _ => weakA pa_nil fun σ H Q q => q
  | t :: ts, e :: es, h, hm => by
    unfold tysOk at h
    rw [Bool.and_eq_true] at h
    obtain ⟨p, rfl⟩ := nameIs_inv h.1
    have m := hm t (List.mem_cons_self ..)
    exact weakA (pa_cons (pe_ty m.1 m.2) (pa_tys ts es h.2 fun t ht => hm t (List.mem_cons_of_mem _ ht)) rfl) fun σ H Q q => q
  | [], _ :: _, h, _ => nomatch h
  | _ :: _, [], h, _ => nomatch h
theorem cls_all : ∀ ts : List Ty, Paired ClsV (ts.map fun t => V.ty (tyS t)) (ts.map fun t => Value.type (tyS t))
  | [] => .nil
  | t :: ts => .cons (.ty _) (cls_all ts)
theorem kit_any {K : Fg} (p : PV) (nc : isCel p = false) : ∀ ts : List Ty, PySem.W.kitAny K (.type (tyN p)) (ts.map fun t => .type (tyS t)) = some (ts.any fun t => isT t p)
  | [] => rfl
  | t :: ts => kitAny_cons (kit_ty (kit_eq t p nc)) (fun h => by rw [List.any_cons, h, Bool.false_or]; exact kit_any p nc ts) fun h => by rw [List.any_cons, h]; rfl
theorem se_isiT {ts : List Ty} {es : List Expr} {j : Nat} {p p2 : Pos} (hg0 : Gl X "isinstance") (hm0 : X.mg "isinstance" = none) (hts : tysOk ts es = true) (hl : ts.length ≤ 16) (hm : ∀ t ∈ ts, Gl X (Str.ofString (tyS t)) ∧ X.mg (Str.ofString (tyS t)) = none) (ha : SE X f a)
    (he : starEach [a, .Tuple es j p2] X.env = (false, eval a X.env) :: starEach [.Tuple es j p2] X.env) (hpl : (backTo pos (starEach [.Tuple es j p2] X.env)).any (·.1) = false) :
    SE X (fun E => gIsi ts (f E)) (.Call (.Name "isinstance" p) [a, .Tuple es j p2] [] pos) :=
  weakE (pe_callB call_isiT hg0 hm0 boot_isi (pa_cons ha (pa_cons (pe_tup (pa_tys ts es hts hm)) pa_nil rfl) he) (by decide +kernel) (by decide +kernel) he hpl) fun σ H Q ⟨ρ, E, S, v, S', hs, he, hf, k⟩ => by
    obtain ⟨x, p, h1, h2, nc, rfl⟩ := gIsi_inv hf
    refine ⟨ρ, E, S, x, S', hs, he, h1, fun ρ1 x' H1 l1 s1 vx _ => ⟨by rw [List.length_map]; exact Nat.le_trans hl (by decide), fun q hq => ?_⟩⟩
    have sm := same_new (o := .tup (ts.map fun t => V.ty (tyS t))) hq
    have vx2 := (vx.move s1 (.same sm)).vt (s1.same sm) h2
    exact ⟨_, q, _, _, ts.map fun t => .type (tyS t), _, rfl, upd_same, cls_all ts, vx2.ty nc, kit_any p nc ts, k ρ1 _ _ (l1.trans (.same sm)) (s1.same sm) (VR.bl _) trivial⟩
/-! ### methods of texts and ints -/
theorem VE.strv {K : Fg} {ρ : Rh} {S S' : Store} {H : Hp} {x : EV} {v : V} {z : List Nat} {ρ' : Rh} {H' : Hp} (s' : Sim K ρ' S' H') (h : VE K ρ S H x v) (e : rd S' x = some (.str z)) : v = .str ⟨z.toArray⟩ ∧ okS z := by
  cases x with
  | v y => cases e; cases (show VR K (Mu ρ S) H (.str z) v from h) with | str _ ok => exact ⟨rfl, ok⟩
  | n y => cases e; cases (show VR K (Mu ρ S) H (.str z) v from h) with | str _ ok => exact ⟨rfl, ok⟩
  | r a => cases s'.cell a _ (rd_at e)
theorem tl_map (ys : List (List Nat)) : (ys.map fun z => (⟨z.toArray⟩ : Str)).map TL.tl = ys := by
  rw [List.map_map]
  have : (TL.tl ∘ fun z : List Nat => (⟨z.toArray⟩ : Str)) = id := by funext z; rfl
  rw [this, List.map_id]
theorem join_L (S : List Nat) : ∀ l : List (List Nat), TL.joinL S l = joinS S l
  | [] => rfl
  | [_] => rfl
  | p :: q :: r => by
    show p ++ (S ++ TL.joinL S (q :: r)) = p ++ (S ++ joinS S (q :: r))
    rw [join_L S (q :: r)]
theorem join_eqv (sep : List Nat) (ys : List (List Nat)) : PySem.Txt.join ⟨sep.toArray⟩ (ys.map fun z => (⟨z.toArray⟩ : Str)) = ⟨(joinS sep ys).toArray⟩ := by
  apply TL.ext_tl
  rw [TL.join_eq, TL.tl_join, tl_map, TL.tl_mk, TL.tl_mk, join_L]
theorem join_mem (sep : List Nat) : ∀ (ys : List (List Nat)) (c : Nat), c ∈ joinS sep ys → c ∈ sep ∨ ∃ y ∈ ys, c ∈ y
  | [], c, h => nomatch h
  | [y], c, h => .inr ⟨y, List.mem_cons_self .., h⟩
  | y :: z :: r, c, h => by
    rcases List.mem_append.mp (show c ∈ y ++ (sep ++ joinS sep (z :: r)) from h) with h | h
    · exact .inr ⟨y, List.mem_cons_self .., h⟩
    · rcases List.mem_append.mp h with h | h
      · exact .inl h
      · rcases join_mem sep (z :: r) c h with h | ⟨w, h1, h2⟩
        · exact .inl h
        · exact .inr ⟨w, List.mem_cons_of_mem _ h1, h2⟩
theorem join_len (sep : List Nat) : ∀ (ys : List (List Nat)), (joinS sep ys).length ≤ sumL ys + ys.length * sep.length
  | [] => Nat.zero_le _
  | [y] => by simp [joinS, sumL]
  | y :: z :: r => by
    show (y ++ (sep ++ joinS sep (z :: r))).length ≤ _
    have ih := join_len sep (z :: r)
    simp only [sumL, List.map_cons, List.sum_cons, List.length_append, List.length_cons, Nat.succ_mul] at ih ⊢
    omega
theorem join_ok {sep : List Nat} {ys : List (List Nat)} (h : okS sep) (hy : ∀ y ∈ ys, okS y) (hl : sumL ys + ys.length * sep.length ≤ line) : okS (joinS sep ys) := ⟨fun c hc => by
  rcases join_mem sep ys c hc with h2 | ⟨y, h1, h2⟩
  · exact h.1 c h2
  · exact (hy y h1).1 c h2, Nat.le_trans (join_len sep ys) hl⟩
theorem spl_C (c : Nat) : ∀ (l acc : List Nat), TL.spl [c] 0 acc l = splC c acc l
  | [], acc => rfl
  | x :: r, acc => by
    show (if TL.pre [c] (x :: r) = true then acc :: TL.spl [c] 0 [] r else TL.spl [c] 0 (acc ++ [x]) r) = _
    unfold splC
    have e : TL.pre [c] (x :: r) = ([x] == [c]) := rfl
    rw [e]
    by_cases h : x = c
    · subst h
      rw [if_pos (by simp), if_pos rfl, spl_C x r []]
    · rw [if_neg (by simpa using h), if_neg h, spl_C c r]
theorem spl_ok {c : Nat} {z : List Nat} (hz : ∀ d ∈ z, d < 1114112) : ∀ (l acc : List Nat), (∀ d ∈ l, d ∈ z) → (∀ d ∈ acc, d ∈ z) → ∀ w ∈ splC c acc l, ∀ d ∈ w, d < 1114112
  | [], acc, _, ha, w, hw, d, hd => by
    have e : w = acc := by simpa [splC] using hw
    subst e
    exact hz d (ha d hd)
  | x :: r, acc, hl, ha, w, hw, d, hd => by
    unfold splC at hw
    have hr : ∀ d ∈ r, d ∈ z := fun d h => hl d (List.mem_cons_of_mem _ h)
    split at hw
    · rcases List.mem_cons.mp hw with rfl | hw
      · exact hz d (ha d hd)
      · exact spl_ok hz r [] hr (by simp) w hw d hd
    · refine spl_ok hz r (acc ++ [x]) hr (fun d h => ?_) w hw d hd
      rcases List.mem_append.mp h with h | h
      · exact ha d h
      · have : d = x := by simpa using h
        subst this
        exact hl d (List.mem_cons_self ..)
theorem spl_len (c : Nat) : ∀ (l acc : List Nat), ∀ w ∈ splC c acc l, w.length ≤ acc.length + l.length
  | [], acc, w, hw => by
    have e : w = acc := by simpa [splC] using hw
    subst e
    simp
  | x :: r, acc, w, hw => by
    unfold splC at hw
    split at hw
    · rcases List.mem_cons.mp hw with rfl | hw
      · omega
      · have := spl_len c r [] w hw
        simp at this ⊢
        omega
    · have := spl_len c r (acc ++ [x]) w hw
      simp at this ⊢
      omega
/-- what a text's method of one argument gives -/
def rMe1 (K : Fg) (m : Me) : V → List V → Hp → VK → Prop := fun x xs H Q => ∃ M z q y r, MutOk M H ∧ x = .str ⟨z.toArray⟩ ∧ okS z ∧ xs = [y] ∧ VT K M H q y ∧ meF m (.str z) [q] = some r ∧ ZR K M H r Q
theorem idx_first (c : Nat) : ∀ (xs : List Nat) (j k : Nat), idxN c xs j = some k → j ≤ k ∧ xs[k - j]? = some c ∧ ∀ i, i < k - j → xs[i]? ≠ some c
  | [], j, k, h => nomatch h
  | x :: xs, j, k, h => by
    unfold idxN at h
    split at h
    · rename_i e
      subst e
      cases h
      exact ⟨Nat.le_refl _, by simp, fun i hi => by omega⟩
    · rename_i ne
      obtain ⟨h1, h2, h3⟩ := idx_first c xs (j + 1) k h
      have e : k - j = (k - (j + 1)) + 1 := by omega
      refine ⟨by omega, by rw [e]; simpa using h2, fun i hi => ?_⟩
      cases i with
      | zero => simp; exact ne
      | succ i => simpa using h3 i (by omega)
theorem sub_one (x : List Nat) (c i : Nat) : Builtin.Str.subAt ⟨x.toArray⟩ ⟨[c].toArray⟩ i = true ↔ x[i]? = some c := by
  unfold Builtin.Str.subAt
  rw [beq_iff_eq]
  have e : (x.toArray.extract i (i + 1)) = ((x.drop i).take 1).toArray := by simp
  show x.toArray.extract i (i + (⟨[c].toArray⟩ : Str).length) = [c].toArray ↔ _
  rw [show (⟨[c].toArray⟩ : Str).length = 1 from rfl, e]
  constructor
  · intro h
    have h : (x.drop i).take 1 = [c] := by simpa using h
    have h2 : ((x.drop i).take 1)[0]? = some c := by rw [h]; rfl
    simpa using h2
  · intro h
    have hi : i < x.length := (List.getElem?_eq_some_iff.mp h).1
    rw [List.drop_eq_getElem_cons hi]
    rw [List.getElem?_eq_getElem hi] at h
    cases h
    rfl
theorem mt_me1 (m : Me) {id : String} (hid : (m = .join ∧ id = "str.join") ∨ (m = .index ∧ id = "str.index") ∨ (m = .split ∧ id = "str.split")) : MtR X id (rMe1 X.K m) := by
  intro pins s σ H x xs v us Q I rx rs ⟨M, z, q, y, r, mo, ex, ok, exs, vt, e, k⟩
  subst ex exs
  rcases hid with ⟨rfl, rfl⟩ | ⟨rfl, rfl⟩ | ⟨rfl, rfl⟩
  · unfold meF at e
    split at e
    all_goals first | (rename_i h1 _ _; cases h1; done) | (rename_i h1 _; cases h1; done) | skip
    · rename_i sep l h2 h3
      cases h2
      cases h3
      split at e
      · rename_i ys hys
        split at e
        · rename_i hz
          cases e
          obtain ⟨p, vs, rfl, h4, r4⟩ := vt.lst'
          obtain ⟨e5, ok5⟩ := r4.strs hys
          refine mt_join pins s σ H _ _ v us Q I rx rs ⟨_, p, ys.map fun z => ⟨z.toArray⟩, rfl, rfl, .inl (SqL.of (by rw [h4, e5])), ?_, ?_⟩
          · have hz := Nat.le_of_ble_eq_true hz
            rw [str_len, List.length_map, List.map_map]
            have : ((fun x : Str => x.length) ∘ fun z : List Nat => (⟨z.toArray⟩ : Str)) = List.length := by funext z; exact str_len z
            rw [this]
            exact hz
          · rw [join_eqv]
            exact ZR.val (.str _ (join_ok ok ok5 (Nat.le_of_ble_eq_true hz))) k
        · cases e
      · cases e
    · rename_i sep l h2 h3
      cases h2
      cases h3
      split at e
      · rename_i ys hys
        split at e
        · rename_i hz
          cases e
          obtain ⟨p, vs, rfl, h4, r4⟩ := vt.tup
          obtain ⟨e5, ok5⟩ := r4.strs hys
          refine mt_join pins s σ H _ _ v us Q I rx rs ⟨_, p, ys.map fun z => ⟨z.toArray⟩, rfl, rfl, .inr (by rw [← e5]; exact h4), ?_, ?_⟩
          · have hz := Nat.le_of_ble_eq_true hz
            rw [str_len, List.length_map, List.map_map]
            have : ((fun x : Str => x.length) ∘ fun z : List Nat => (⟨z.toArray⟩ : Str)) = List.length := by funext z; exact str_len z
            rw [this]
            exact hz
          · rw [join_eqv]
            exact ZR.val (.str _ (join_ok ok ok5 (Nat.le_of_ble_eq_true hz))) k
        · cases e
      · cases e
    · cases e
  · unfold meF at e
    split at e
    all_goals first | (rename_i h1 _ _; cases h1; done) | (rename_i h1 _; cases h1; done) | skip
    · rename_i zz c _ h2 h3
      cases h2
      cases h3
      split at e
      · rename_i j hj
        cases e
        obtain ⟨rfl, _⟩ := vt.str
        obtain ⟨i1, i2, i3⟩ := idx_first c z 0 j hj
        rw [Nat.sub_zero] at i2 i3
        have len1 : (⟨[c].toArray⟩ : Str).length = 1 := rfl
        have hjz : j < z.length := (List.getElem?_eq_some_iff.mp i2).1
        rcases PySem.StrLaws.occ_head ⟨z.toArray⟩ ⟨[c].toArray⟩ 1 (Nat.le_refl _) with ⟨_, h⟩ | ⟨i, rest, h4, h5, h6⟩
        · exact absurd ⟨by rw [len1, str_len]; omega, (sub_one z c j).mpr i2⟩ (h j)
        · have e5 := (sub_one z c i).mp h5.2
          have : i = j := by
            rcases Nat.lt_trichotomy i j with q | q | q
            · exact absurd e5 (i3 i q)
            · exact q
            · exact absurd ⟨by rw [len1, str_len]; omega, (sub_one z c j).mpr i2⟩ (h6 j q)
          subst this
          exact mt_sindex pins s σ H _ _ v us Q I rx rs ⟨_, _, i, rest, rfl, rfl, h4, ZR.val (.int _) k⟩
      · cases e
    · cases e
  · unfold meF at e
    split at e
    all_goals first | (rename_i h1 _ _; cases h1; done) | (rename_i h1 _; cases h1; done) | skip
    · rename_i zz c _ h2 h3
      cases h2
      cases h3
      split at e
      · rename_i hz
        rw [Bool.and_eq_true] at hz
        have hc : c < 128 := Nat.le_of_ble_eq_true hz.1
        have hl : z.length + 2 ≤ line := Nat.le_of_ble_eq_true hz.2
        cases e
        obtain ⟨rfl, _⟩ := vt.str
        have e1 : (PySem.Txt.split ⟨z.toArray⟩ ⟨[c].toArray⟩) = (splC c [] z).map fun w => (⟨w.toArray⟩ : Str) := by
          apply TL.map_tl_inj
          rw [TL.split_spl _ _ (by simp) (TL.kind_ok (by simp; omega)), tl_map]
          exact spl_C c z []
        refine mt_split pins s σ H _ _ v us Q I rx rs ⟨_, _, rfl, rfl, rfl, by rw [str_len, ← line_eq]; exact hl, ?_⟩
        rw [e1]
        have ok2 := spl_ok (c := c) ok.1 z [] (fun _ h => h) (fun _ h => nomatch h)
        have rr : VRs X.K M H ((splC c [] z).map .str) (((splC c [] z).map fun w => (⟨w.toArray⟩ : Str)).map V.str) := by
          have lens := spl_len c z []
          have key : ∀ l : List (List Nat), (∀ w ∈ l, okS w) → VRs X.K M H (l.map .str) ((l.map fun w => (⟨w.toArray⟩ : Str)).map V.str) := by
            intro l
            induction l with
            | nil => intro _; exact .nil
            | cons a l ih => intro h; exact .cons (.str a (h a (List.mem_cons_self ..))) (ih fun w hw => h w (List.mem_cons_of_mem _ hw))
          exact key _ fun w hw => ⟨ok2 w hw, Nat.le_trans (lens w hw) (by simp; omega)⟩
        exact ZR.lst mo rr k
      · cases e
    · cases e
end
end Py

set_option Elab.async false
set_option linter.all false
set_option maxRecDepth 100000
set_option maxHeartbeats 4000000
namespace Py
open PySem PySem.Spec PyProof.Rows L2
section
variable {X : Cx} {f g : RE} {a b o e : Expr} {pos : Pos}
def meName : Me → Str
  | .join => "join" | .index => "index" | .split => "split" | .bits => "bit_length" | .count => "count" | .get2 => "get" | .keys0 => "keys"
def me1Ok : Me → Bool
  | .join | .index | .split => true
  | _ => false
theorem me_w {m : Me} {id : String} {σ : L2.St} {H : Hp} {Q : VK} (hm : me1Ok m = true) (h : tE X.K (fun E => gMe m (f E) (gCons (g E) gNil)) σ H Q) : tM1 (rMe1 X.K m) (tE X.K f) (tE X.K g) σ H Q := by
  obtain ⟨ρ, E, S, v, S', hs, he, hf, k⟩ := h
  obtain ⟨S1, vs, p, xs, h1, h2, h4, h5⟩ := gMe_inv hf
  obtain ⟨y, S2, ys, h6, h7, rfl⟩ := gCons_inv h2
  cases h7
  have hq : ∃ q, rd S' y = some q ∧ xs = [q] := by
    unfold mapO at h4
    cases q : rd S' y with
    | none => rw [q] at h4; cases h4
    | some q' =>
      rw [q] at h4
      cases h4
      exact ⟨q', rfl, rfl⟩
  obtain ⟨q, h8, rfl⟩ := hq
  have hp : ∃ z, p = .str z := by
    unfold meF at h5
    split at h5
    all_goals first | exact ⟨_, rfl⟩ | (cases hm; done) | (cases h5; done)
  obtain ⟨z, rfl⟩ := hp
  refine ⟨ρ, E, S, _, S1, hs, he, h1, fun ρ1 x' H1 l1 s1 vx _ => ?_⟩
  cases (show VR X.K (Mu ρ1 S1) H1 (.str z) x' from vx) with
  | str _ ok =>
    refine ⟨⟨_, rfl⟩, ρ1, E, S1, y, S', s1, he.move hs l1, h6, fun ρ2 y' H2 l2 s2 vy _ => ?_⟩
    exact ⟨_, z, q, y', v, s2.mutOk, rfl, ok, rfl, vy.vt s2 h8, h5, zr_of s2 (l1.trans l2) k⟩
theorem se_me1 {m : Me} {apos : Pos} (hm : me1Ok m = true) (ho : SE X f o) (he : SE X g e) (hs : starEach [e] X.env = [(false, eval e X.env)]) (hbase : attributeBase o (meName m) X.env (eval o X.env) = eval o X.env) (hline : (apos.endLine == pos.line) = true) :
    SE X (fun E => gMe m (f E) (gCons (g E) gNil)) (.Call (.Attribute o (meName m) apos) [e] [] pos) := by
  cases m <;> first | cases hm | skip
  · exact weakE (pe_m1 F.slot_str_join F.type_str_join (mt_me1 .join (.inl ⟨rfl, rfl⟩)) ho he hs hbase hline) fun σ H Q => me_w (id := "") rfl
  · exact weakE (pe_m1 F.slot_str_index F.type_str_index (mt_me1 .index (.inr (.inl ⟨rfl, rfl⟩))) ho he hs hbase hline) fun σ H Q => me_w (id := "") rfl
  · exact weakE (pe_m1 F.slot_str_split F.type_str_split (mt_me1 .split (.inr (.inr ⟨rfl, rfl⟩))) ho he hs hbase hline) fun σ H Q => me_w (id := "") rfl
theorem se_bits {apos : Pos} (ho : SE X f o) (hbase : attributeBase o "bit_length" X.env (eval o X.env) = eval o X.env) (hline : (apos.endLine == pos.line) = true) : SE X (fun E => gMe .bits (f E) gNil) (.Call (.Attribute o "bit_length" apos) [] [] pos) :=
  weakE (pe_bits ho hbase hline) fun σ H Q ⟨ρ, E, S, v, S', hs, he, hf, k⟩ => by
    obtain ⟨S1, vs, p, xs, h1, h2, h4, h5⟩ := gMe_inv hf
    cases h2
    cases h4
    refine ⟨ρ, E, S, _, _, hs, he, h1, fun ρ1 x' H1 l1 s1 vx _ => ?_⟩
    unfold meF at h5
    split at h5
    all_goals first | (rename_i h6 _ _; cases h6; done) | (rename_i h6 _; cases h6; done) | skip
    · rename_i h6 h7 _
      cases h5
      have := (vx.vt s1 rfl).int
      refine ⟨_, this, ?_⟩
      have k2 := k ρ1 _ H1 l1 s1 (VR.int _) trivial
      have e : ∀ i : Int, (((Builtin.Int.intBits i : Nat) : Int)) = (if i = 0 then 0 else ((i.natAbs.log2 + 1 : Nat) : Int)) := fun i => by
        unfold Builtin.Int.intBits
        by_cases hi : i = 0
        · subst hi; rfl
        · rw [if_neg hi, if_neg (by simpa using hi)]
      rw [e]
      exact k2
    · cases h5
theorem gGdx_inv {G : List PV} {i : Nat} {S S' : Store} {h : R1} {v : EV} (q : gGdx G i h S = some (v, S')) : ∃ x z t ks vs y, h S = some (x, S') ∧ rd S' x = some (.str z) ∧ G[i]? = some (.dic t ks vs) ∧ dget ks vs (.str z) = some y ∧ v = .v y := by
  simp only [gGdx] at q
  repeat' split at q
  all_goals first | (cases q; done) | (simp only [Option.some.injEq, Prod.mk.injEq] at q; obtain ⟨rfl, rfl⟩ := q; exact ⟨_, _, _, _, _, _, ‹_›, ‹_›, ‹_›, ‹_›, rfl⟩)
/-- the dict i of the module -/
def GDic (X : Cx) (G : List PV) (i : Nat) (x : Str) : Prop := ∃ p, X.mg x = some (.ref p) ∧ (p == sysModules) = false ∧ ∀ t ks vs z y, G[i]? = some (.dic t ks vs) → dget ks vs (.str z) = some y → ∃ v, KDct X.K X.w p ⟨z.toArray⟩ v ∧ ∀ M H, VR X.K M H y v
theorem se_gdx {G : List PV} {i : Nat} {x : Str} {p : Pos} (hd : GDic X G i x) (hg : Gl X x) (hdb : (x == ("__debug__" : Str)) = false) (hb : SE X g b) (hs : PlainIx b) : SE X (fun E => gGdx G i (g E)) (.Subscript (.Name x p) b pos) := by
  obtain ⟨q, hm, _, hd⟩ := hd
  exact weakE (pe_ix ix_kdict (pe_glob hg hm (v := .ref q) rfl hdb) hb hs) fun σ H Q ⟨ρ, E, S, v, S', hs, he, hf, k⟩ => by
    obtain ⟨x, z, t, ks, vs, y, h1, h2, h3, h4, rfl⟩ := gGdx_inv hf
    obtain ⟨u, k1, k2⟩ := hd _ _ _ _ _ h3 h4
    refine ⟨ρ, E, S, x, S', hs, he, h1, fun ρ1 x' H1 l1 s1 vx _ => ⟨q, ⟨z.toArray⟩, u, rfl, ((vx.vt s1 h2).str).1, k1, k ρ1 u H1 l1 s1 (k2 _ _) trivial⟩⟩
theorem gGin_inv {G : List PV} {neg : Bool} {i : Nat} {S S' : Store} {h : R1} {v : EV} (q : gGin G neg i h S = some (v, S')) : ∃ x z t ks vs y, h S = some (x, S') ∧ rd S' x = some (.str z) ∧ G[i]? = some (.dic t ks vs) ∧ dget ks vs (.str z) = some y ∧ v = .v (.bl (!neg)) := by
  simp only [gGin] at q
  repeat' split at q
  all_goals first | (cases q; done) | (simp only [Option.some.injEq, Prod.mk.injEq] at q; obtain ⟨rfl, rfl⟩ := q; exact ⟨_, _, _, _, _, _, ‹_›, ‹_›, ‹_›, ‹_›, rfl⟩)
def inOp (neg : Bool) : COp := if neg then .notin else .inn
def rInK (K : Fg) (w : World) (neg : Bool) : R2 := fun x y H Q => ∃ p z v, x = .str z ∧ y = .ref p ∧ (p == sysModules) = false ∧ KDct K w p z v ∧ Q (.bl (!neg)) H
theorem op_inK (neg : Bool) : OpR X (compareOp (cOf (inOp neg))) (rInK X.K X.w neg) := by
  intro pins s σ H x y v u Q I rx ry ⟨p, z, r, e1, e2, lo, ⟨es, n, u0, hl, hk, e, ru⟩, q⟩
  subst e1; subst e2
  obtain ⟨t, rfl⟩ := rx
  obtain rfl : u = Value.ref p := ry
  have hm := PySem.W.mapOf_K (prog := X.prog) (w := X.w) I.kIn hl hk
  have hf := PySem.W.find_K hl e
  cases neg with
  | false =>
    refine wpAny_in_of (PySem.strKind_is X.prog X.w z t) lo hm ?_
    rw [hf]
    exact ⟨.bl true, H, I.tok _, rfl, q⟩
  | true =>
    refine wpAny_notIn_of (PySem.strKind_is X.prog X.w z t) lo hm ?_
    rw [hf]
    exact ⟨.bl false, H, I.tok _, rfl, q⟩
theorem se_gin {G : List PV} {neg : Bool} {i : Nat} {x : Str} {p : Pos} (hd : GDic X G i x) (hg : Gl X x) (hdb : (x == ("__debug__" : Str)) = false) (hb : SE X g b) : SE X (fun E => gGin G neg i (g E)) (.Compare b [cOf (inOp neg)] [.Name x p] pos) := by
  obtain ⟨q, hm, lo, hd⟩ := hd
  refine weakE (pe_cmpR (op_inK neg) hb (pe_glob hg hm (v := .ref q) rfl hdb) (by cases neg <;> rfl)) fun σ H Q ⟨ρ, E, S, v, S', hs, he, hf, k⟩ => ?_
  obtain ⟨x, z, t, ks, vs, y, h1, h2, h3, h4, rfl⟩ := gGin_inv hf
  obtain ⟨u, k1, _⟩ := hd _ _ _ _ _ h3 h4
  exact ⟨ρ, E, S, x, S', hs, he, h1, fun ρ1 x' H1 l1 s1 vx _ => ⟨q, ⟨z.toArray⟩, u, ((vx.vt s1 h2).str).1, rfl, lo, k1, k ρ1 _ H1 l1 s1 (VR.bl _) trivial⟩⟩
theorem st_gin {G : List PV} {neg : Bool} {i : Nat} {x : Str} {p : Pos} (hd : GDic X G i x) (hg : Gl X x) (hdb : (x == ("__debug__" : Str)) = false) (hb : SE X g b) : ST X (fun E => gGin G neg i (g E)) (.Compare b [cOf (inOp neg)] [.Name x p] pos) := by
  obtain ⟨q, hm, lo, hd⟩ := hd
  refine weakT (pt_cmpR (op_inK neg) hb (pe_glob hg hm (v := .ref q) rfl hdb) (by cases neg <;> rfl)) fun σ H Q ⟨ρ, E, S, v, S', pp, hs, he, hf, hp, k⟩ => ?_
  obtain ⟨x, z, t, ks, vs, y, h1, h2, h3, h4, rfl⟩ := gGin_inv hf
  obtain ⟨u, k1, _⟩ := hd _ _ _ _ _ h3 h4
  cases hp
  exact ⟨ρ, E, S, x, S', hs, he, h1, fun ρ1 x' H1 l1 s1 vx _ => ⟨q, ⟨z.toArray⟩, u, ((vx.vt s1 h2).str).1, rfl, lo, k1, _, rfl, k ρ1 H1 l1 s1⟩⟩
end
end Py

set_option Elab.async false
set_option linter.all false
set_option maxRecDepth 100000
set_option maxHeartbeats 4000000
namespace Py
open PySem PySem.Spec PyProof.Rows L2
/-! ### the end of a def: its own cells go -/
section
variable {K : Fg} {ρ ρ' : Rh} {S S1 : Store} {H H' : Hp}
theorem fin_ok {S' : Store} {v : EV} {v' : V} {rv : RV} (l : Le ρ S H ρ' S1 H') (s1 : Sim K ρ' S1 H') (ve : VE K ρ' S1 H' v v') (nw : New K ρ' S1 H' H v v') (f : fin S.length S1 v = some (rv, S')) :
    Le ρ S H ρ' S' H' ∧ Sim K ρ' S' H' ∧ VE K ρ' S' H' (ofR rv) v' ∧ New K ρ' S' H' H (ofR rv) v' := by
  cases v with
  | v x =>
    cases f
    exact ⟨l, s1, ve, trivial⟩
  | n x =>
    cases f
    exact ⟨l, s1, ve, nw⟩
  | r a =>
    simp only [fin] at f
    repeat' split at f
    all_goals first | (cases f; done) | skip
    rename_i hle _ x hx
    cases f
    have hle : S.length ≤ a := Nat.le_of_ble_eq_true hle
    have ha : At S1 a x := ⟨_, hx, rfl⟩
    obtain ⟨rfl, _⟩ := ve
    have cv := s1.cell a x ha
    obtain ⟨s2, l2, r2⟩ := kill s1 hx
    have sub0 : ∀ b y, At (S1.set a .dead) b y → b ≠ a ∧ At S1 b y := fun b y h => by
      rcases set_at h with ⟨_, q⟩ | q
      · cases q
      · exact q
    have sub : ∀ q, Mu (ρ'.plus (ρ' a)) (S1.set a .dead) 0 q → Mu ρ' S1 0 q := fun q z => by
      rcases z with (z | z) | ⟨b, y, h, r⟩
      · exact .inl z
      · exact .inr ⟨a, x, ha, z.symm⟩
      · exact .inr ⟨b, y, (sub0 b y h).2, r⟩
    have ad : ∀ b q, Mu ρ' S1 (b + 1) q → Mu (ρ'.plus (ρ' a)) (S1.set a .dead) (b + 1) q := fun b q h => ⟨by rw [List.length_set]; exact h.1, h.2⟩
    refine ⟨l.trans l2, s2, r2, fun p e => ?_⟩
    cases e
    refine ⟨?_, fun _ => ⟨⟨fun b d y z h1 h2 r => s1.inj b d y z (sub0 b y h1).2 (sub0 d z h2).2 r, fun q z => ?_, fun b y h z => ?_, fun b y h => (s1.cell b y (sub0 b y h).2).sub s1.mutOk sub ad⟩, cv.sub s1.mutOk sub ad⟩⟩
    · rcases l.new a x ha with ⟨h1, _⟩ | ⟨_, h1⟩
      · omega
      · exact h1
    · rcases z with z | z
      · exact s1.fok q z
      · subst z; exact cv.mut
    · rcases z with z | z
      · exact s1.dis b y (sub0 b y h).2 z
      · exact (sub0 b y h).1 (s1.inj b a y x (sub0 b y h).2 ha z)
theorem er_start {N : List Str} {vs : List V} {xs : List EV} (r : Paired (VE K ρ S H) xs vs) : ER K ρ S H (xs.map (fun v => some (toE v)) ++ List.replicate (N.length - xs.length) none) (L2.start N vs) := by
  have hl := plen r
  refine ⟨by simp [L2.start, hl], fun i x h => ?_⟩
  unfold L2.start
  by_cases c : i < xs.length
  · rw [List.getElem?_append_left (by simpa using c)] at h
    rw [List.getElem?_append_left (by rw [List.length_map, ← hl]; exact c)]
    rw [List.getElem?_map] at h ⊢
    have key : ∀ {xs : List EV} {vs : List V}, Paired (VE K ρ S H) xs vs → ∀ (i : Nat) (a : EV), xs[i]? = some a → ∃ v, vs[i]? = some v ∧ VE K ρ S H a v := by
      intro xs vs r
      induction r with
      | nil => intro i a h; simp at h
      | cons h r ih =>
        intro i a e
        cases i with
        | zero => simp at e; subst e; exact ⟨_, rfl, h⟩
        | succ i => simpa using ih i a (by simpa using e)
    cases q : xs[i]? with
    | none => rw [q] at h; cases h
    | some a =>
      rw [q] at h
      cases h
      obtain ⟨v, h1, h2⟩ := key r i a q
      exact ⟨v, by rw [h1]; rfl, h2.toE⟩
  · rw [List.getElem?_append_right (by simpa using c)] at h
    rw [List.getElem?_replicate] at h
    split at h <;> cases h
end
theorem run_inv {G : List PV} {C : Ora} {w : Nat} {F : Fn} {xs : List EV} {S S' : Store} {rv : RV} (h : run G C w F xs S = some (rv, S')) : xs.length = F.np ∧ ∃ fl E1 S1, exs G C w F.body (xs.map (fun v => some (toE v)) ++ List.replicate (F.nn - F.np) none) S = some (fl, E1, S1) ∧
    ((fl = .next ∧ rv = .v .non ∧ S' = S1) ∨ ∃ v, fl = .ret v ∧ fin S.length S1 v = some (rv, S')) := by
  unfold run at h
  split at h
  · rename_i hl
    refine ⟨Nat.eq_of_beq_eq_true hl, ?_⟩
    split at h
    · simp only [Option.some.injEq, Prod.mk.injEq] at h
      obtain ⟨rfl, rfl⟩ := h
      exact ⟨_, _, _, ‹_›, .inl ⟨rfl, rfl, rfl⟩⟩
    · exact ⟨_, _, _, ‹_›, .inr ⟨_, rfl, h⟩⟩
    · cases h
  · cases h
/-- a def's body keeps the promise of the level -/
theorem sp_body {K : Fg} {G : List PV} {C C' : Ora} {w i : Nat} {F : Fn} {N : List Str} (hC : ∀ xs S, C' i xs S = run G C w F xs S) (hn : F.nn = N.length) {vs : List V} {H : Hp} {Q : VK} {E : XK} (h : spO K C' i F.np vs H Q E) :
    tS K (fun _ _ => False) (exs G C w F.body) { nx := fun _ H' => Q .non H', rt := Q } (L2.start N vs) H := by
  obtain ⟨hl, ρ, S, xs, rv, S', hs, vx, hc, k⟩ := h
  rw [hC] at hc
  obtain ⟨hx, fl, E1, S1, h1, h2⟩ := run_inv hc
  rw [hn, ← hx] at h1
  refine ⟨ρ, _, S, fl, E1, S1, hs, er_start vx, h1, fun ρ' H' l s1 => ?_⟩
  rcases h2 with ⟨rfl, rfl, rfl⟩ | ⟨v, rfl, hv⟩
  · exact ⟨fun _ _ _ => k ρ' .non H' l s1 .non trivial, fun e => (nomatch e), fun e => (nomatch e), fun v e => (nomatch e), fun c e => (nomatch e)⟩
  · refine ⟨fun e => (nomatch e), fun e => (nomatch e), fun e => (nomatch e), fun u e v' ve nw => ?_, fun c e => (nomatch e)⟩
    cases e
    obtain ⟨l2, s2, g1, g2⟩ := fin_ok l s1 ve nw hv
    exact k ρ' v' H' l2 s2 g1 g2
/-- what a def raises, as the evaluator says: xa: where its class stands -/
def spX (K : Fg) (C : Ora) (xa : Nat → Addr → Prop) (f np : Nat) : Sp := fun vs H _ E => vs.length = np ∧ ∃ ρ S xs c S', Sim K ρ S H ∧ Paired (VE K ρ S H) xs vs ∧ C (f + far) xs S = some (.v (.int (c : Nat)), S') ∧
  ∀ ρ' H', Le ρ S H ρ' S' H' → Sim K ρ' S' H' → ∀ a, xa c a → E (.ref a) none H'
theorem runX_inv {G : List PV} {C : Ora} {w : Nat} {F : Fn} {xs : List EV} {S S' : Store} {rv : RV} (h : runX G C w F xs S = some (rv, S')) : xs.length = F.np ∧ ∃ c E1, exs G C w F.body (xs.map (fun v => some (toE v)) ++ List.replicate (F.nn - xs.length) none) S = some (.exc c, E1, S') ∧ rv = .v (.int c) := by
  unfold runX at h
  split at h
  · rename_i q
    have hl : xs.length = F.np := Nat.eq_of_beq_eq_true q
    refine ⟨hl, ?_⟩
    split at h
    · rename_i c E1 S1 e
      simp only [Option.some.injEq, Prod.mk.injEq] at h
      obtain ⟨rfl, rfl⟩ := h
      rw [hl]
      exact ⟨c, E1, e, rfl⟩
    · cases h
  · cases h
theorem sp_bodyX {K : Fg} {G : List PV} {C C' : Ora} {w i : Nat} {F : Fn} {N : List Str} {xa : Nat → Addr → Prop} (hC : ∀ xs S, C' (i + far) xs S = runX G C w F xs S) (hn : F.nn = N.length) {vs : List V} {H : Hp} {Q : VK} {E : XK} (h : spX K C' xa i F.np vs H Q E) :
    tS K (fun c H => ∀ a, xa c a → E (.ref a) none H) (exs G C w F.body) { nx := fun _ H' => Q .non H', rt := Q } (L2.start N vs) H := by
  obtain ⟨hl, ρ, S, xs, c, S', hs, vx, hc, k⟩ := h
  rw [hC] at hc
  obtain ⟨hx, c', E1, h1, h2⟩ := runX_inv hc
  rw [hn] at h1
  have ec : c = c' := by
    have : (c : Int) = c' := by simpa using h2
    omega
  subst ec
  rw [hx] at h1
  rw [← hx] at h1
  refine ⟨ρ, _, S, _, E1, S', hs, er_start vx, h1, fun ρ' H' l s1 => ?_⟩
  refine ⟨fun e => (nomatch e), fun e => (nomatch e), fun e => (nomatch e), fun u e => (nomatch e), fun c2 e => ?_⟩
  cases e
  exact fun a ha => k ρ' H' l s1 a ha
/-! ### calls by keywords alone -/
section
variable {X : Cx} {C : Ora} {n np k : Nat} {fa : Addr} {fd : FuncData} {ps ks : List Str} {x : Str} {p pos : Pos} {kws : List Keyword} {tk : TA} {g : Env → RL} {E : XK} {CX : CXT} {sp : Sp} {gg : List Value → List Value → List Value} {gV : List V → List V → List V}
theorem pe_callKN (F : FnOk X.prog X.w X.K X.mg X.base CX n fa fd ps sp) (hr : Room n X.A) (hg : Gl X x) (hm : X.mg x = some (.ref fa)) (hk : PySem.W.keepIn X.K (.ref fa) = true) (hb : KBn X.K fd ps 0 ks gg gV) (hx : Passes CX X E) (hkw : PK X kws tk)
    (hall : (backToKw pos (keywordEach kws X.env)).all (·.1.isSome) = true) (hks : (backToKw pos (keywordEach kws X.env)).filterMap (·.1) = ks) (hdb : (x == ("__debug__" : Str)) = false)
    (hpl : ((backTo pos (starEach [] X.env)).any (·.1) || (backToKw pos (keywordEach kws X.env)).any (·.1.isNone)) = false) :
    PE X (.Call (.Name x p) [] kws pos) (fun σ H Q => tk σ H fun zs H2 => zs.length = ks.length ∧ sp (gV [] zs) H2 Q E) := by
  refine ⟨fun pins s σ H Q I h => ?_⟩
  refine wpAny_Call_Name_kw (ld_glob I hg hm ?_ hdb)
  refine PySem.W.callWith_KW0 (h₀ := X.base) I.ok.mod.kin hk hall ?_ hpl
  refine thn (hkw.run pos pins s σ H _ I h) fun ws s2 ⟨zs, H2, I2, rz, l2, q2⟩ => ⟨I2.kIn, ?_⟩
  rw [hks]
  exact run_fnN (us := []) (vs := []) F hr hb hx I2 .nil rz rfl l2 q2
end
end Py

set_option Elab.async false
set_option linter.all false
set_option maxRecDepth 100000
set_option maxHeartbeats 4000000
namespace Py
open PySem PySem.Spec PyProof.Rows L2
/-! ### what the text's form alone decides -/
def noStar : Expr → Bool
  | .Starred .. => false
  | _ => true
theorem star_cons {e : Expr} {es : List Expr} {env : PySem.Env} (h : noStar e = true) : starEach (e :: es) env = (false, eval e env) :: starEach es env := by
  cases e <;> first | rfl | cases h
theorem asg_cons {e : Expr} {es : List Expr} {env : PySem.Env} (h : noStar e = true) : assignEach (e :: es) env = (false, assign e env) :: assignEach es env := by
  cases e <;> first | rfl | cases h
theorem star_all {pos : Pos} {env : PySem.Env} : ∀ {es : List Expr}, es.all noStar = true → (backTo pos (starEach es env)).any (·.1) = false
  | [], _ => rfl
  | e :: es, h => by
    rw [List.all_cons, Bool.and_eq_true] at h
    rw [star_cons h.1]
    show (false || (backTo pos (starEach es env)).any (·.1)) = false
    rw [star_all h.2]
    rfl
theorem asg_find {env : PySem.Env} : ∀ {es : List Expr}, es.all noStar = true → (assignEach es env).length = es.length ∧ (assignEach es env).findIdx? (·.1) = none
  | [], _ => ⟨rfl, rfl⟩
  | e :: es, h => by
    rw [List.all_cons, Bool.and_eq_true] at h
    rw [asg_cons h.1]
    obtain ⟨h1, h2⟩ := asg_find (env := env) h.2
    refine ⟨congrArg Nat.succ h1, ?_⟩
    rw [List.findIdx?_cons]
    simp [h2]
def notSlice : Expr → Bool
  | .Slice .. => false
  | _ => true
theorem plainIx {e : Expr} (h : notSlice e = true) : PlainIx e := by
  cases e <;> first | (intro o i; rfl) | cases h
theorem aug_plain {i : Expr} (h : notSlice i = true) (ov iv new : Value) : augStore i ov iv new = (do holding [new, ov, iv] (setItem ov iv new); release [new, ov, iv] []; pure .next) := by
  cases i <;> first | rfl | cases h
def notSet : Expr → Bool
  | .Set .. => false
  | _ => true
theorem notSet_in {op : CmpOp} {e : Expr} (h : notSet e = true) : behindInMarks op e = false := by
  cases e <;> first | rfl | cases h
theorem notSet_it {e : Expr} {env : PySem.Env} (h : notSet e = true) (x : Value) : foldedSetIterable e env x = pure x := by
  cases e <;> first | rfl | cases h
def notCall : Expr → Bool
  | .Call .. => false
  | _ => true
theorem base_ok {o : Expr} {m : Str} {env : PySem.Env} (h : notCall o = true) : attributeBase o m env (eval o env) = eval o env := by
  cases o <;> first | rfl | cases h
def notComp : Expr → Bool
  | .ListComp .. | .SetComp .. | .DictComp .. => false
  | _ => true
theorem swaps_no {v : Expr} {t : Option Expr} {l : Nat} {env : PySem.Env} (h : notComp v = true) : swapsWith v t l env = pure false := by
  cases v <;> first | rfl | cases h
/-- name = [..]: by the store itself -/
def swB (sc scope : Scope) (t : Str) (line vline : Nat) : Bool := decide (sc.names.lookup t = some .local) && (line == vline) && !(scope.names.any fun q => q.1 == t && (q.2 == .local || q.2 == .cell))
theorem sw_comp {elt : Expr} {gens : List Comprehension} {scope : Scope} {p pos : Pos} {t : Str} {l : Nat} {env : PySem.Env} (hk : env.scope.kind = .function) :
    swapsWith (.ListComp elt gens scope p) (some (.Name t pos)) l env = pure (swB env.scope scope t pos.line p.line) := by
  have hb : env.blockKind = .function := by
    unfold Env.blockKind
    rw [hk]
    rfl
  show (pure (env.blockKind == .function && env.kindOf t == some .local && pos.line == p.line && !(scope.names.any fun (n, k) => n == t && (k == .local || k == .cell))) : Sem Bool) = _
  rw [hb]
  congr 1
  unfold swB Env.kindOf
  congr 2
  show (true && _) = _
  rw [Bool.true_and]
  cases q : List.lookup t env.scope.names with
  | none => rfl
  | some k => cases k <;> rfl
/-- tg = v: no stores change places -/
def swC (tg v : Expr) : Bool := match tg with
  | .Tuple .. | .List .. => (match v with
    | .Tuple vs _ _ => vs.all (foldedForSure 8)
    | _ => true)
  | _ => true
theorem swC_ok {tg v : Expr} {env : PySem.Env} (h : swC tg v = true) : swappedStores [tg] v env = pure none := by
  unfold swC at h
  split at h
  · split at h
    · unfold swappedStores
      simp only [h, if_true]
      repeat' split
      all_goals first | rfl | skip
    · unfold swappedStores
      split
      · rename_i h1
        split at h1 <;> simp_all
      · rfl
  · split at h
    · unfold swappedStores
      simp only [h, if_true]
      repeat' split
      all_goals first | rfl | skip
    · unfold swappedStores
      split
      · rename_i h1
        split at h1 <;> simp_all
      · rfl
  · unfold swappedStores
    split
    · rename_i h1
      split at h1 <;> simp_all
    · rfl
/-- .. where a name of the target is no plain local -/
def swL (sc : Scope) (tg : Expr) : Bool := match tg with
  | .Tuple ts _ _ => ts.any fun t => match t with
    | .Name x _ => !(sc.names.lookup x == some .local)
    | _ => false
  | _ => false
theorem fm_lt {α β : Type} {f : α → Option β} : ∀ {l : List α} {a : α}, a ∈ l → f a = none → (l.filterMap f).length < l.length
  | b :: l, a, h, e => by
    rcases List.mem_cons.mp h with rfl | h
    · rw [List.filterMap_cons, e]
      exact Nat.lt_succ_of_le (List.length_filterMap_le f l)
    · have := fm_lt h e
      rw [List.filterMap_cons]
      cases f b with
      | none => exact Nat.lt_succ_of_lt this
      | some c => exact Nat.succ_lt_succ this
theorem swL_ok {tg v : Expr} {env : PySem.Env} (h : swL env.scope tg = true) : swappedStores [tg] v env = pure none := by
  unfold swL at h
  split at h
  · rename_i ts k p
    obtain ⟨t, ht, h2⟩ := List.any_eq_true.mp h
    split at h2
    · rename_i x px
      have h3 : ¬ env.scope.names.lookup x = some .local := by simpa using h2
      unfold swappedStores
      cases v with
      | Tuple vs k2 p2 =>
        have key := fm_lt (f := fun t => match t with
          | .Name id pos => if (env.kindOf id == some .local && pos.line == (Option.map (fun (e : Expr) => e.pos.line) ts.head?).getD 0) = true then some id else none
          | _ => none) ht (by
            show (if (env.kindOf x == some .local && _) = true then some x else none) = none
            rw [if_neg]
            intro q
            rw [Bool.and_eq_true] at q
            exact h3 (by simpa [Env.kindOf] using q.1))
        have key2 := Nat.ne_of_lt key
        simp only [bne_iff_ne, ne_eq, Bool.or_eq_true]
        repeat' split
        all_goals first | rfl | skip
        all_goals (exfalso; simp_all; obtain ⟨y, hy, e⟩ := key; rename_i q4 q3 q2 q1 q0; exact q2.1 y hy e)
      | _ => rfl
    · cases h2
  · cases h
/-! ### raise, try -/
section
variable {X : Cx} {C : Addr} {bmB : List Value} {B newId initId : String}
/-- X() -/
theorem pmk_own0 {x : Str} {p pos : Pos} (F : ExcBaseFacts B newId initId bmB) (q : PySem.W.excIn X.K C bmB newId = true) (gC : X.mg x = some (.ref C)) (kC : PySem.W.keepIn X.K (.ref C) = true) (r : Raises X (.ref C)) (hg : Gl X x)
    (hdb : (x == ("__debug__" : Str)) = false) : PMk X (.Call (.Name x p) [] [] pos) (fun _ H Q => Q (.ref C) none H) := by
  intro pins s σ H Q I h
  refine wpAny_Call_Name_kw (ld_glob I hg gC ?_ hdb)
  refine PySem.W.callWith_K0 I.kIn kC ?_
  show wpAny _ _ (PySem.call (.ref C) []) _ _ _
  obtain ⟨bm, N, nm, qn, bs, hdct, sn, sub, ab, col, dd, k0, k1, k2, k3, k5, mN, hC, hN, hni, T⟩ := exc_obj I.kIn q
  refine wpAny_call_exc_subT F T hC hN hni (fun h' e hm => ?_) (by show 0 ≤ sizeLine; omega)
  exact mk_of I hm r h (I.hok.gone hm.new)
end
/-- what is known of the class x at C -/
structure ExcC (K : Fg) (C : Addr) : Prop where
  ex : PySem.W.excIn K C He.veBase "ValueError.__new__" = true
  kp : PySem.W.keepIn K (.ref C) = true
  sub : PySem.W.subIn K (.ref C) (.type "BaseException") = some true
  ty : PySem.W.typeIn K (.ref C) = some (.type "type")
  me : PySem.W.exmOne K (.ref C) (.ref C) = some true
/-- a wish of raised classes, as the layer has it -/
def wOf (xa : Nat → Addr → Prop) (Wc : XW) : WX := fun cls d _ H => d = none ∧ ∃ c a, cls = .ref a ∧ xa c a ∧ Wc c H
theorem takes_no {X : Cx} {xa : Nat → Addr → Prop} : Takes X (wOf xa fun _ _ => False) := fun u s' ⟨a, B, sI, pins, σ, H, cls, d, e, I, nb, up, sky, na, os, ag, w⟩ => by
  obtain ⟨_, c, b, _, _, z⟩ := w
  exact z.elim
section
variable {X : Cx} {Wc : XW} {xa : Nat → Addr → Prop} {C : Addr} {x y : Str} {p pos pos' np rp cpos epos hpos : Pos}
theorem ss_rais {c : Nat} (hc : X.calm = true) (tk : Takes X (wOf xa Wc)) (q : ExcC X.K C) (gC : X.mg x = some (.ref C)) (hx : xa c C) (hg : Gl X x) (hdb : (x == ("__debug__" : Str)) = false) :
    SS X Wc (hRais c) (.Raise (some (.Call (.Name x p) [] [] pos)) none pos') :=
  weakS (ps_raise hc tk (pmk_own0 PySem.F.excBase_ValueError q.ex gC q.kp (raises_own q.sub q.ty) hg hdb)) fun D σ H ⟨ρ, E, S, fl, E', S', hs, he, hf, k⟩ => by
    simp only [hRais, Option.some.injEq, Prod.mk.injEq] at hf
    obtain ⟨rfl, rfl, rfl⟩ := hf
    exact ⟨rfl, c, C, rfl, hx, (k ρ H .refl hs).xc c rfl⟩
theorem hTryc_inv {Co : Ora} {f c : Nat} {g : Env → RL} {a : PV} {E E' : Env} {S S' : Store} {fl : Fl} (h : hTryc Co f g c a E S = some (fl, E', S')) : ∃ vs S1, g E S = some (vs, S1) ∧ E' = E ∧
    ((∃ rv, Co f vs S1 = some (rv, S') ∧ fl = .next) ∨ (Co (f + far) vs S1 = some (.v (.int (c : Nat)), S') ∧ fl = .ret (.v a))) := by
  unfold hTryc at h
  repeat' split at h
  all_goals first | (cases h; done) | skip
  · simp only [Option.some.injEq, Prod.mk.injEq] at h
    obtain ⟨rfl, rfl, rfl⟩ := h
    exact ⟨_, _, ‹_›, rfl, .inl ⟨_, ‹_›, rfl⟩⟩
  · rename_i k S2 e2 b q
    have := of_decide_eq_true q
    subst this
    simp only [Option.some.injEq, Prod.mk.injEq] at h
    obtain ⟨rfl, rfl, rfl⟩ := h
    exact ⟨_, _, ‹_›, rfl, .inr ⟨e2, rfl⟩⟩
/-- what a def does, or raises -/
def spB (K : Fg) (Co : Ora) (xa : Nat → Addr → Prop) (f np : Nat) : Sp := fun vs H Q E => spO K Co f np vs H Q E ∨ spX K Co xa f np vs H Q E
theorem ss_tryc {Co : Ora} {f c n npar j : Nat} {g : Env → RL} {a : PV} {k : Const} {e : Expr} {es : List Expr} {fa : Addr} {fd : FuncData} {ps : List Str} (hs : X.stack = X.env :: X.outer) (hfr : X.env.frame = some X.env.locals) (tk : Takes X (wOf xa Wc)) (pc : X.calm = true)
    (F : FnOk X.prog X.w X.K X.mg X.base (L2.CX X.prog X.w) n fa fd ps (spB X.K Co xa f npar)) (hr : Room n X.A) (hg : Gl X x) (hm : X.mg x = some (.ref fa)) (hk : PySem.W.keepIn X.K (.ref fa) = true) (hb : Binds X.K fd ps [])
    (ha : ∀ pn xe, PassesOwn (model X.prog X.w) X.A X.env xe → PA (X.tr pn xe) (e :: es) (tL X.K g)) (hlen : ∀ E S vs S', g E S = some (vs, S') → vs.length = npar) (hdb : (x == ("__debug__" : Str)) = false)
    (hst : noStar e = true) (hpl : es.all noStar = true) (q : ExcC X.K C) (gC : X.mg y = some (.ref C)) (hxa : xa c C) (hu : ∀ b, xa c b → b = C) (gy : Gl X y) (dy : (y == ("__debug__" : Str)) = false) (hcst : cstOk a k = true)
    (hsw : swapsWith (.Call (.Name x p) (e :: es) [] cpos) none epos.line X.env = pure false) :
    SS X Wc (hTryc Co f g c a) (.Try [.Expr (.Call (.Name x p) (e :: es) [] cpos) epos] [.ExceptHandler (some (.Name y np)) none [.Return (some (.Constant k j rp)) pos'] hpos] [] [] pos) :=
  weakS (ps_try_only (tb := fun W => tSeq (tDrop (tCallS (spB X.K Co xa f npar) (WE W) (tL X.K g))) tNext) (ts := fun _ _ _ => tRet (tE X.K fun _ S => some (.v a, S))) (c := .ref C) hs hfr ⟨gy, dy, .inl gC⟩ tk
      (fun W pn xe tkW pw => pss_cons (ps_expr (pe_callS (X := X.tr pn xe) F hr hg hm hk hb (fun σ => passAt tkW σ) (ha pn xe pw) hdb (star_cons hst) (star_all hpl)) hsw) pss_nil)
      (fun a' oe cls d pn _ _ => by
        have := pss_cons (ps_ret (pos := pos') (se_cst (X := X.suite a' ((a', oe) :: pn)) (pos := rp) (j := j) hcst)) pss_nil
        exact weakSs this fun D σ H h => h)) fun D σ H ⟨ρ, E, S, fl, E', S', hs, he, hf, kk⟩ => by
    obtain ⟨vs, S1, h1, eE, h2⟩ := hTryc_inv hf
    subst eE
    refine ⟨ρ, _, S, vs, S1, hs, he, h1, fun ρ1 us H1 l1 s1 vx => ?_⟩
    rcases h2 with ⟨rv, h2, rfl⟩ | ⟨h2, rfl⟩
    · refine .inl ⟨(plen vx).symm.trans (hlen _ _ _ _ h1), ρ1, S1, vs, rv, S', s1, vx, h2, fun ρ2 v' H2 l2 s2 _ _ => ?_⟩
      exact (kk ρ2 H2 (l1.trans l2) s2).nx rfl σ (he.move hs (l1.trans l2))
    · refine .inr ⟨(plen vx).symm.trans (hlen _ _ _ _ h1), ρ1, S1, vs, c, S', s1, vx, h2, fun ρ2 H2 l2 s2 b hb => ?_⟩
      cases hu b hb
      refine ⟨true, q.me, fun _ a' _ => ?_, fun z => (nomatch z)⟩
      exact ⟨ρ2, _, S', .v a, S', s2, he.move hs (l1.trans l2), rfl, fun ρ3 v' H3 l3 s3 ve nw => (kk ρ3 H3 ((l1.trans l2).trans l3) s3).rt _ rfl v' ve (nw.le (l1.trans l2))⟩
end
end Py

set_option Elab.async false
set_option linter.all false
set_option maxRecDepth 100000
set_option maxHeartbeats 4000000
/-! the checker: a tree of the evaluator beside the text's -/
namespace Py
open PySem PySem.Spec PyProof.Rows L2
structure Tb where
  fns : List (Str × Nat)
  glo : List Str
  free : List Str
  kws : List (Nat × List Str × List Nat)
  exc : List Str := []
  hrd : Option Str := none
def locB (sc : Scope) (x : Str) : Bool := match sc.names.lookup x with
  | some .local => true
  | some .cell => true
  | _ => false
def visB (sc : Scope) (x : Str) : Bool := match sc.names.lookup x with
  | some .local => true
  | some .cell => true
  | some .free => true
  | _ => false
def glB (sc : Scope) (x : Str) : Bool := decide (sc.names.lookup x = some .globalImplicit)
def dbg (x : Str) : Bool := !(x == ("__debug__" : Str)) && !(x == ("__classdict__" : Str))
def nmB (N : List Str) (sc : Scope) (i : Nat) (x : Str) : Bool := decide (N[i]? = some x) && (visB sc x && dbg x)
def bltB (T : Tb) (sc : Scope) (x : Str) : Bool := glB sc x && T.free.contains x
theorem vis_of {sc : Scope} {x : Str} (h : visB sc x = true) : Vis sc x := by
  unfold visB at h
  split at h
  · exact .inl ‹_›
  · exact .inr (.inl ‹_›)
  · exact .inr (.inr ‹_›)
  · cases h
theorem loc_of {sc : Scope} {x : Str} (h : locB sc x = true) : Loc sc x := by
  unfold locB at h
  split at h
  · exact .inl ‹_›
  · exact .inr ‹_›
  · cases h
theorem dbg_of {x : Str} (h : dbg x = true) : (x == ("__debug__" : Str)) = false ∧ (x == ("__classdict__" : Str)) = false := by
  unfold dbg at h
  simp only [Bool.and_eq_true, Bool.not_eq_true'] at h
  exact h
/-- a comprehension's names as its block has them -/
def relS (sc scope : Scope) : Scope := { scope with names := scope.names.map fun q => if (q.2 == .free && sc.kind == .function && sc.names.lookup q.1 == some .cell) then (q.1, .cell) else (q.1, q.2) }
section
variable (T : Tb) (N : List Str)
mutual
def chkG (sc : Scope) (fc : Str → Bool) : Tg → Expr → Bool
  | .nm i, e => (match e with
    | .Name x _ => decide (N[i]? = some x) && (locB sc x && (decide (sc.names.lookup x = some .local) || fc x))
    | _ => false)
  | .tp ts, e => (match e with
    | .Tuple es _ _ => es.all noStar && chkGs sc fc ts es
    | _ => false)
def chkGs (sc : Scope) (fc : Str → Bool) : List Tg → List Expr → Bool
  | [], es => es.isEmpty
  | t :: ts, es => (match es with
    | e :: es => chkG sc fc t e && chkGs sc fc ts es
    | [] => false)
end
mutual
/-- of these a test asks by parts -/
def tst : Ex → Bool
  | .no a => tst a
  | .cmp2 .. => false
  | .ife .. => false
  | .bop _ es => tsts es
  | .mk _ => false
  | _ => true
def tsts : List Ex → Bool
  | [] => true
  | e :: es => tst e && tsts es
end
def notTest : Expr → Bool
  | .UnaryOp .Not .. | .BoolOp .. | .IfExp .. | .Compare .. => false
  | _ => true
def isC (sc : Scope) (x : Str) : Bool := sc.names.lookup x == some .cell
mutual
def chkE (sc : Scope) : Ex → Expr → Bool
  | .var i, e => (match e with | .Name x _ => nmB N sc i x | _ => false)
  | .frz i, e => (match e with | .Name x _ => nmB N sc i x | _ => false)
  | .cst c, e => (match e with | .Constant k _ _ => cstOk c k | _ => false)
  | .glo g, e => (match e with | .Name x _ => decide (T.glo[g]? = some x) && (glB sc x && dbg x) | _ => false)
  | .bin op a b, e => (match e with | .BinOp a' o b' _ => decide (o = opOf op) && (chkE sc a a' && chkE sc b b') | _ => false)
  | .neg a, e => (match e with | .UnaryOp o a' _ => decide (o = .USub) && chkE sc a a' | _ => false)
  | .no a, e => (match e with | .UnaryOp o a' _ => decide (o = .Not) && (tst a && chkE sc a a') | _ => false)
  | .cmp op a b, e => (match e with | .Compare a' [o] [b'] _ => decide (o = cOf op) && (notSet b' && (chkE sc a a' && chkE sc b b')) | _ => false)
  | .cmp2 op op2 a b c, e => (match e with | .Compare a' [o, o2] [b', c'] _ => decide (o = cOf op) && (decide (o2 = cOf op2) && (notSet c' && (chkE sc a a' && (chkE sc b b' && chkE sc c c')))) | _ => false)
  | .bop isAnd es, e => (match e with | .BoolOp o vs _ => decide (o = if isAnd then .And else .Or) && (!es.isEmpty && chkL sc es vs) | _ => false)
  | .ife c a b, e => (match e with | .IfExp c' a' b' _ => tst c && (chkE sc c c' && (chkE sc a a' && chkE sc b b')) | _ => false)
  | .tup es, e => (match e with | .Tuple vs _ _ => vs.all noStar && chkL sc es vs | _ => false)
  | .lst es, e => (match e with | .List vs _ => vs.all noStar && chkL sc es vs | _ => false)
  | .ix a b, e => (match e with | .Subscript a' b' _ => notSlice b' && (chkE sc a a' && chkE sc b b') | _ => false)
  | .dix _ _, _ => false
  | .sl a lo hi, e => (match e with | .Subscript a' (.Slice l u none _) _ => chkE sc a a' && (chkO sc lo l && chkO sc hi u) | _ => false)
  | .rev a, e => (match e with | .Subscript a' (.Slice none none (some (.UnaryOp .USub (.Constant (.int 1) _ _) _)) _) _ => chkE sc a a' | _ => false)
  | .call f es, e => (match e with | .Call (.Name x _) vs [] _ => decide (T.fns[f]? = some (x, es.length)) && (glB sc x && (dbg x && (vs.all noStar && chkL sc es vs))) | _ => false)
  | .callS f es, e => (match e with | .Call (.Name x _) (v :: vs) [] _ => decide (T.fns[f]? = some (x, es.length)) && (glB sc x && (dbg x && ((v :: vs).all noStar && chkL sc es (v :: vs)))) | _ => false)
  | .callK f ks es, e => (match e with | .Call (.Name x _) [] kws _ => decide (T.fns[f]? = some (x, es.length)) && (glB sc x && (dbg x && (T.kws.contains (f, kws.filterMap (·.arg), ks) && (kws.all (·.arg.isSome) && (decide (ks.length = es.length) && chkL sc es (kws.map (·.value))))))) | _ => false)
  | .bi b es, e => (match e with | .Call (.Name x _) (v :: vs) [] _ => decide (x = biN b) && (bltB T sc x && ((v :: vs).all noStar && chkL sc es (v :: vs))) | _ => false)
  | .isi a ts, e => (match e with
    | .Call (.Name x _) [a', c'] [] _ => decide (x = "isinstance") && (bltB T sc x && (noStar a' && (chkE sc a a' && (ts.all (fun t => bltB T sc (Str.ofString (tyS t))) && (Nat.ble ts.length 16 && (match ts, c' with
      | [t], .Name y _ => decide (y = Str.ofString (tyS t))
      | ts, .Tuple cs _ _ => tysOk ts cs
      | _, _ => false))))))
    | _ => false)
  | .me m o es, e => (match e with
    | .Call (.Attribute o' y ap) vs [] p => decide (y = meName m) && (notCall o' && ((ap.endLine == p.line) && (chkE sc o o' && (match m, vs with
      | .bits, [] => es.isEmpty
      | m, [v] => me1Ok m && (noStar v && (decide (es.length = 1) && chkL sc es [v]))
      | _, _ => false))))
    | _ => false)
  | .comp own tg it cond elt, e => (match e with
    | .ListComp elt' [⟨tg', it', ifs, 0⟩] scope _ => (slots tg).all own.contains && (blkC N sc scope (own.map fun i => (N.getD i Str.empty, i)) && (notSet it' && (chkI sc it tg' it' && (chkG N (relS sc scope) (isC scope) tg tg' && (chkC (relS sc scope) cond ifs && chkE (relS sc scope) elt elt')))))
    | _ => false)
  | .dsp _ _ _, _ => false
  | .pop i, e => (match e with
    | .Call (.Attribute (.Name y _) m ap) [] [] cp => decide (m = "pop") && (nmB N sc i y && (ap.endLine == cp.line))
    | _ => false)
  | .mk a, e => chkE sc a e
  | .gdx g b, e => (match e with | .Subscript (.Name x _) b' _ => decide (T.glo[g]? = some x) && (glB sc x && (dbg x && (notSlice b' && chkE sc b b'))) | _ => false)
  | .gin neg g b, e => (match e with | .Compare b' [o] [.Name x _] _ => decide (o = cOf (inOp neg)) && (decide (T.glo[g]? = some x) && (glB sc x && (dbg x && chkE sc b b'))) | _ => false)
  | .heard f es, e => (match e with | .Call (.Name x _) (.Name y _ :: vs) [] _ => decide (T.hrd = some x) && (decide (T.fns[f]? = some (y, 2)) && (glB sc x && (dbg x && (glB sc y && (dbg y && (vs.all noStar && (decide (es.length = 2) && chkL sc es vs))))))) | _ => false)
  | .val _, _ => false
  | .rng _, _ => false
  | .enum _, _ => false
  | .zip _ _, _ => false
  | .items _, _ => false
  | .values _, _ => false
def chkL (sc : Scope) : List Ex → List Expr → Bool
  | [], es => es.isEmpty
  | x :: xs, es => (match es with
    | e :: es => chkE sc x e && chkL sc xs es
    | [] => false)
def chkO (sc : Scope) : Option Ex → Option Expr → Bool
  | none, e => e.isNone
  | some x, e => (match e with
    | some e => chkE sc x e
    | none => false)
def chkC (sc : Scope) : Option Ex → List Expr → Bool
  | none, es => es.isEmpty
  | some x, es => (match es with
    | [e] => tst x && chkE sc x e
    | _ => false)
/-- what is walked, by a target -/
def chkI (sc : Scope) : Ex → Expr → Expr → Bool
  | .rng es, _, e => (match e with
    | .Call (.Name x _) vs [] _ => decide (x = "range") && (bltB T sc x && (vs.all noStar && (chkL sc es vs && (decide (es.length = 1) || decide (es.length = 2)))))
    | _ => false)
  | .enum a, tg, e => (match tg, e with
    | .Tuple .., .Call (.Name x _) [a'] [] _ => decide (x = "enumerate") && (bltB T sc x && (noStar a' && chkE sc a a'))
    | _, _ => false)
  | .zip a b, tg, e => (match tg, e with
    | .Tuple .., .Call (.Name x _) [a', b'] [] _ => decide (x = "zip") && (bltB T sc x && (noStar a' && (noStar b' && (chkE sc a a' && chkE sc b b'))))
    | _, _ => false)
  | .val a, _, e => chkE sc a e
  | _, _, _ => false
end
end
end Py

set_option Elab.async false
set_option linter.all false
set_option maxRecDepth 100000
set_option maxHeartbeats 4000000
namespace Py
open PySem PySem.Spec PyProof.Rows L2
/-- the classes that a try speaks of: the c-th stands at a -/
def xaOf (T : Tb) (mg : Str → Option Value) (c : Nat) (a : Addr) : Prop := ∃ x, T.exc[c]? = some x ∧ mg x = some (.ref a)
/-- a def that is handed the def i, at fb -/
def spH (K : Fg) (C : Ora) (i : Nat) (fb : Addr) : Sp := fun vs H Q E => ∃ us, vs = .ref fb :: us ∧ spO K C (i + far2) 2 us H Q E
/-- the context of a block: what its names are, what its calls promise -/
structure Bk (T : Tb) (G : List PV) (C : Ora) (N : List Str) (sc : Scope) (fc : Str → Bool) (X : Cx) : Prop where
  eN : X.N = N
  eS : X.env.scope = sc
  kind : sc.kind = .function
  nd : N.Nodup
  calm : X.calm = true
  hu : X.A.units + 64 < cLine
  pass : PassesOwn (model X.prog X.w) X.A X.env X.xe
  fn : ∀ x, fc x = true → X.fn x = true
  fns : ∀ (i : Nat) (x : Str) (np : Nat), T.fns[i]? = some (x, np) → ∃ n fa fd ps, FnOk X.prog X.w X.K X.mg X.base (L2.CX X.prog X.w) n fa fd ps (spB X.K C (xaOf T X.mg) i np) ∧ Room n X.A ∧ X.mg x = some (.ref fa) ∧ PySem.W.keepIn X.K (.ref fa) = true ∧ Binds X.K fd ps [] ∧
    ∀ ks js, (i, ks, js) ∈ T.kws → KBn X.K fd ps 0 ks (fun _ ws => js.filterMap (ws[·]?)) (fun _ zs => js.filterMap (zs[·]?))
  glo : ∀ (i : Nat) (x : Str) (y : PV), T.glo[i]? = some x → G[i]? = some y → isCon y = false → ∃ u v, X.mg x = some u ∧ RelV v u ∧ ∀ M H, VR X.K M H y v
  dic : ∀ (i : Nat) (x : Str) (t : Bool) (ks vs : List PV), T.glo[i]? = some x → G[i]? = some (.dic t ks vs) → GDic X G i x
  free : ∀ x ∈ T.free, X.mg x = none
  exc : ∀ (c : Nat) (x : Str), T.exc[c]? = some x → ∃ a, X.mg x = some (.ref a) ∧ ExcC X.K a
  hrd : ∀ (x : Str), T.hrd = some x → ∀ (i : Nat) (y : Str), T.fns[i]? = some (y, 2) → ∃ n fa fd ps fb, FnOk X.prog X.w X.K X.mg X.base (L2.CX X.prog X.w) n fa fd ps (spH X.K C i fb) ∧ Room n X.A ∧ X.mg x = some (.ref fa) ∧ PySem.W.keepIn X.K (.ref fa) = true ∧ Binds X.K fd ps [] ∧ X.mg y = some (.ref fb)
section
variable {T : Tb} {G : List PV} {C : Ora} {N : List Str} {sc : Scope} {fc : Str → Bool} {X : Cx}
theorem Bk.fnO (c : Bk T G C N sc fc X) (i : Nat) (x : Str) (np : Nat) (h : T.fns[i]? = some (x, np)) : ∃ n fa fd ps, FnOk X.prog X.w X.K X.mg X.base (L2.CX X.prog X.w) n fa fd ps (spO X.K C i np) ∧ Room n X.A ∧ X.mg x = some (.ref fa) ∧ PySem.W.keepIn X.K (.ref fa) = true ∧ Binds X.K fd ps [] ∧
    ∀ ks js, (i, ks, js) ∈ T.kws → KBn X.K fd ps 0 ks (fun _ ws => js.filterMap (ws[·]?)) (fun _ zs => js.filterMap (zs[·]?)) := by
  obtain ⟨n, fa, fd, ps, F, r⟩ := c.fns i x np h
  exact ⟨n, fa, fd, ps, F.imp fun _ _ _ _ z => .inl z, r⟩
/-- the context of a try's body -/
theorem Bk.tr (c : Bk T G C N sc fc X) (pn : List (Addr × Obj)) (xe : Value → Shared → Prop) (pw : PassesOwn (model X.prog X.w) X.A X.env xe) : Bk T G C N sc fc (X.tr pn xe) where
  eN := c.eN
  eS := c.eS
  kind := c.kind
  nd := c.nd
  calm := c.calm
  hu := c.hu
  pass := pw
  fn := c.fn
  fns := c.fns
  glo := c.glo
  dic := c.dic
  free := c.free
  exc := c.exc
  hrd := c.hrd
theorem Bk.gl (c : Bk T G C N sc fc X) {x : Str} (h : glB sc x = true) : Gl X x := by
  show X.env.scope.names.lookup x = some .globalImplicit
  rw [c.eS]
  exact of_decide_eq_true h
theorem Bk.blt (c : Bk T G C N sc fc X) {x : Str} (h : bltB T sc x = true) : Gl X x ∧ X.mg x = none := by
  unfold bltB at h
  rw [Bool.and_eq_true] at h
  exact ⟨c.gl h.1, c.free x (by simpa using h.2)⟩
theorem Bk.nm (c : Bk T G C N sc fc X) {i : Nat} {x : Str} (h : nmB N sc i x = true) : X.N[i]? = some x ∧ Vis X.env.scope x ∧ (x == ("__debug__" : Str)) = false ∧ (x == ("__classdict__" : Str)) = false := by
  unfold nmB at h
  rw [Bool.and_eq_true, Bool.and_eq_true] at h
  rw [c.eN, c.eS]
  exact ⟨of_decide_eq_true h.1, vis_of h.2.1, dbg_of h.2.2⟩
theorem Bk.blk (c : Bk T G C N sc fc X) {scope : Scope} (hk : scope.kind = .function) (s : Shared) (H : Hp) (D : Addr) (cl : List (Str × Addr)) (fp : List Addr) :
    Bk T G C N (relS sc scope) (isC scope) (X.blk s H scope (compEnvC scope cl D X.env) fp) where
  eN := c.eN
  eS := by
    show relabel scope X.env = relS sc scope
    unfold relabel relS Env.kindOf
    rw [c.eS]
  kind := hk
  nd := c.nd
  calm := c.calm
  hu := c.hu
  pass := PassesOwn.never
  fn := fun x h => h
  fns := c.fns
  glo := c.glo
  dic := c.dic
  free := c.free
  exc := c.exc
  hrd := c.hrd
theorem evs_len {E : Env} : ∀ (es : List Ex) {S : Store} {vs : List EV} {S' : Store}, evs G C es E S = some (vs, S') → vs.length = es.length
  | [], _, _, _, h => by
    simp only [evs, gNil, Option.some.injEq, Prod.mk.injEq] at h
    rw [← h.1]
    rfl
  | e :: es, _, _, _, h => by
    obtain ⟨x, S1, xs, h1, h2, rfl⟩ := gCons_inv (show gCons (ev G C e E) (evs G C es E) _ = _ from h)
    exact congrArg Nat.succ (evs_len es h2)
mutual
theorem okG : ∀ (t : Tg) (e : Expr) {sc : Scope} {fc : Str → Bool} {X : Cx}, Bk T G C N sc fc X → chkG N sc fc t e = true → SG X t e
  | .nm i, e, sc, fc, X, c, h => by
    unfold chkG at h
    split at h
    · rename_i x p
      rw [Bool.and_eq_true, Bool.and_eq_true, Bool.or_eq_true] at h
      refine sg_name (by rw [c.eN]; exact c.nd) (by rw [c.eN]; exact of_decide_eq_true h.1) (by rw [c.eS]; exact loc_of h.2.1) ?_
      rcases h.2.2 with h | h
      · exact .inr (by rw [c.eS]; exact of_decide_eq_true h)
      · exact .inl (c.fn x h)
    · cases h
  | .tp ts, e, sc, fc, X, c, h => by
    unfold chkG at h
    split at h
    · rename_i es k p
      rw [Bool.and_eq_true] at h
      obtain ⟨a1, a2⟩ := asg_find (env := X.env) h.1
      have g := okGs ts es c h.1 h.2
      refine sg_tup c.calm g.1 (a1.trans g.2) a2
    · cases h
theorem okGs : ∀ (ts : List Tg) (es : List Expr) {sc : Scope} {fc : Str → Bool} {X : Cx}, Bk T G C N sc fc X → es.all noStar = true → chkGs N sc fc ts es = true → SGs X ts es ∧ es.length = ts.length
  | [], es, sc, fc, X, c, hs, h => by
    unfold chkGs at h
    rw [List.isEmpty_iff] at h
    subst h
    exact ⟨sgs_nil, rfl⟩
  | t :: ts, es, sc, fc, X, c, hs, h => by
    unfold chkGs at h
    split at h
    · rename_i e es
      rw [Bool.and_eq_true] at h
      rw [List.all_cons, Bool.and_eq_true] at hs
      have g := okGs ts es c hs.2 h.2
      exact ⟨sgs_cons (okG t e c h.1) g.1 (by rw [asg_cons hs.1]; rfl), congrArg Nat.succ g.2⟩
    · cases h
end
end
end Py

set_option Elab.async false
set_option linter.all false
set_option maxRecDepth 100000
set_option maxHeartbeats 4000000
namespace Py
open PySem PySem.Spec PyProof.Rows L2
abbrev SK (X : Cx) (f : Env → RL) (e : List Keyword) : Prop := PK X e (tL X.K f)
section
variable {X : Cx}
theorem weakK {e : List Keyword} {t t' : TA} (h : PK X e t) (w : ∀ σ H Q, t' σ H Q → t σ H Q) : PK X e t' := ⟨fun p pins s σ H Q I q => h.run p pins s σ H Q I (w _ _ _ q)⟩
theorem sk_nil : SK X (fun _ => gNil) [] := weakK pk_nil fun σ H Q ⟨ρ, E, S, v, S', hs, he, hf, k⟩ => by
  cases hf
  exact k ρ [] H .refl hs .nil
theorem sk_cons {f : RE} {g : Env → RL} {nm : Option Str} {a : Expr} {kp : Pos} {kws : List Keyword} (ha : SE X f a) (hr : SK X g kws) : SK X (fun E => gCons (f E) (g E)) (⟨nm, a, kp⟩ :: kws) := weakK (pk_cons ha hr) fun σ H Q ⟨ρ, E, S, v, S', hs, he, hf, k⟩ => by
  obtain ⟨x, S1, xs, h1, h2, rfl⟩ := gCons_inv hf
  refine ⟨ρ, E, S, x, S1, hs, he, h1, fun ρ1 x' H1 l1 s1 vx _ => ⟨ρ1, E, S1, xs, S', s1, he.move hs l1, h2, fun ρ2 us H2 l2 s2 vs => k ρ2 _ H2 (l1.trans l2) s2 (.cons (vx.move s1 l2) vs)⟩⟩
theorem kw_some {pos : Pos} {env : PySem.Env} : ∀ {kws : List Keyword}, kws.all (·.arg.isSome) = true → (backToKw pos (keywordEach kws env)).all (·.1.isSome) = true ∧ (backToKw pos (keywordEach kws env)).filterMap (·.1) = kws.filterMap (·.arg) ∧ (backToKw pos (keywordEach kws env)).any (·.1.isNone) = false
  | [], _ => ⟨rfl, rfl, rfl⟩
  | ⟨a, v, p⟩ :: kws, h => by
    rw [List.all_cons, Bool.and_eq_true] at h
    obtain ⟨h1, h2, h3⟩ := kw_some (pos := pos) (env := env) h.2
    cases a with
    | none => cases h.1
    | some a =>
      refine ⟨?_, ?_, ?_⟩
      · show (true && (backToKw pos (keywordEach kws env)).all (·.1.isSome)) = true
        rw [h1]
        rfl
      · show a :: (backToKw pos (keywordEach kws env)).filterMap (·.1) = a :: kws.filterMap (·.arg)
        rw [h2]
      · show (false || (backToKw pos (keywordEach kws env)).any (·.1.isNone)) = false
        rw [h3]
        rfl
theorem pick {α β : Type} {F : α → β → Prop} {vs : List α} {us : List β} (r : Paired F vs us) : ∀ {js : List Nat} {ws : List α}, mapO (fun k => vs[k]?) js = some ws → Paired F ws (js.filterMap (us[·]?))
  | [], ws, h => by cases h; exact .nil
  | j :: js, ws, h => by
    have h : (match vs[j]? with
      | some y => match mapO (fun k => vs[k]?) js with
        | some ys => some (y :: ys)
        | none => none
      | none => none) = some ws := h
    cases q : vs[j]? with
    | none => rw [q] at h; cases h
    | some y =>
      rw [q] at h
      cases q2 : mapO (fun k => vs[k]?) js with
      | none => rw [q2] at h; cases h
      | some ys =>
        rw [q2] at h
        cases h
        have ih := pick r (js := js) (ws := ys) q2
        have key : ∀ {vs : List α} {us : List β}, Paired F vs us → ∀ (i : Nat) (a : α), vs[i]? = some a → ∃ b, us[i]? = some b ∧ F a b := by
          intro vs us r
          induction r with
          | nil => intro i a h; simp at h
          | cons h r ih =>
            intro i a e
            cases i with
            | zero => simp at e; subst e; exact ⟨_, rfl, h⟩
            | succ i => simpa using ih i a (by simpa using e)
        obtain ⟨b, h1, h2⟩ := key r j y q
        rw [List.filterMap_cons, h1]
        exact .cons h2 ih
theorem reorder_len {α : Type} {vs : List α} : ∀ {js : List Nat} {ws : List α}, mapO (fun k => vs[k]?) js = some ws → ws.length = js.length
  | [], ws, h => by cases h; rfl
  | j :: js, ws, h => by
    have h : (match vs[j]? with
      | some y => match mapO (fun k => vs[k]?) js with
        | some ys => some (y :: ys)
        | none => none
      | none => none) = some ws := h
    cases q : vs[j]? with
    | none => rw [q] at h; cases h
    | some y =>
      rw [q] at h
      cases q2 : mapO (fun k => vs[k]?) js with
      | none => rw [q2] at h; cases h
      | some ys =>
        rw [q2] at h
        cases h
        exact congrArg Nat.succ (reorder_len (js := js) q2)
theorem gCallK_inv {C : Ora} {k : Nat} {js : List Nat} {S S' : Store} {f : RL} {v : EV} (h : gCallK C k js f S = some (v, S')) : ∃ vs ws, f S = some (vs, S') ∧ reorder js vs = some ws ∧ callP C k ws S' = some v := by
  simp only [gCallK] at h
  repeat' split at h
  all_goals first | (cases h; done) | (simp only [Option.some.injEq, Prod.mk.injEq] at h; obtain ⟨rfl, rfl⟩ := h; exact ⟨_, _, ‹_›, ‹_›, ‹_›⟩)
theorem se_callK {C : Ora} {n np k : Nat} {fa : Addr} {fd : FuncData} {ps ks : List Str} {js : List Nat} {x : Str} {p pos : Pos} {kws : List Keyword} {g : Env → RL} (F : FnOk X.prog X.w X.K X.mg X.base (L2.CX X.prog X.w) n fa fd ps (spO X.K C k np)) (hr : Room n X.A) (hg : Gl X x) (hm : X.mg x = some (.ref fa)) (hk : PySem.W.keepIn X.K (.ref fa) = true)
    (hb : KBn X.K fd ps 0 ks (fun _ ws => js.filterMap (ws[·]?)) (fun _ zs => js.filterMap (zs[·]?))) (hkw : SK X g kws) (hall : kws.all (·.arg.isSome) = true) (hks : kws.filterMap (·.arg) = ks) (hdb : (x == ("__debug__" : Str)) = false) (hj : js.length = np)
    (hl : ∀ E S vs S', g E S = some (vs, S') → vs.length = ks.length) : SE X (fun E => gCallK C k js (g E)) (.Call (.Name x p) [] kws pos) := by
  obtain ⟨a1, a2, a3⟩ := kw_some (pos := pos) (env := X.env) hall
  refine weakE (pe_callKN F hr hg hm hk hb passL hkw a1 (a2.trans hks) hdb (by rw [a3]; rfl)) fun σ H Q ⟨ρ, E, S, v, S', hs, he, hf, kk⟩ => ?_
  obtain ⟨vs, ws, h1, h2, h3⟩ := gCallK_inv hf
  refine ⟨ρ, E, S, vs, S', hs, he, h1, fun ρ1 us H1 l1 s1 vx => ⟨(plen vx).symm.trans (hl _ _ _ _ h1), ?_⟩⟩
  exact sp_pure s1 (pick vx h2) h3 ((reorder_len h2).trans hj) fun ρ2 v' H2 l2 s2 vy ny => kk ρ2 v' H2 (l1.trans l2) s2 vy (ny.le l1)
end
theorem se_heard {X : Cx} {C : Ora} {n k : Nat} {fa fb : Addr} {fd : FuncData} {ps : List Str} {x y : Str} {p q pos : Pos} {es : List Expr} {g : Env → RL} (F : FnOk X.prog X.w X.K X.mg X.base (L2.CX X.prog X.w) n fa fd ps (spH X.K C k fb)) (hr : Room n X.A) (hg : Gl X x) (hm : X.mg x = some (.ref fa)) (hk : PySem.W.keepIn X.K (.ref fa) = true) (hb : Binds X.K fd ps [])
    (hgy : Gl X y) (hmy : X.mg y = some (.ref fb)) (hdy : (y == ("__debug__" : Str)) = false) (ha : SA X g es) (hdb : (x == ("__debug__" : Str)) = false) (hpl : (backTo pos (starEach es X.env)).any (·.1) = false)
    (hl : ∀ E S vs S', g E S = some (vs, S') → vs.length = 2) : SE X (fun E => gCall C (k + far2) (g E)) (.Call (.Name x p) (.Name y q :: es) [] pos) := by
  refine weakE (pe_call F hr hg hm hk hb .nil passL (pa_cons (pe_glob hgy hmy (v := .ref fb) rfl hdy) ha rfl) hdb rfl hpl) fun σ H Q ⟨ρ, E, S, v, S', hs, he, hf, kk⟩ => ?_
  obtain ⟨vs, h1, h2⟩ := gCall_inv hf
  exact ⟨ρ, E, S, vs, S', hs, he, h1, fun ρ1 us H1 l1 s1 vx => by
    show spH X.K C k fb ((.ref fb :: us) ++ []) H1 Q E0
    rw [List.append_nil]
    exact ⟨us, rfl, sp_pure s1 vx h2 (hl _ _ _ _ h1) fun ρ2 v' H2 l2 s2 vy ny => kk ρ2 v' H2 (l1.trans l2) s2 vy (ny.le l1)⟩⟩
theorem map_snd (own : List Nat) (f : Nat → Str) : (own.map fun i => (f i, i)).map (·.2) = own := by
  rw [List.map_map]
  have : ((fun q : Str × Nat => q.2) ∘ fun i => (f i, i)) = id := by funext i; rfl
  rw [this, List.map_id]
theorem filt_len {kws : List Keyword} (h : kws.all (·.arg.isSome) = true) : (kws.filterMap (·.arg)).length = kws.length := by
  induction kws with
  | nil => rfl
  | cons k kws ih =>
    rw [List.all_cons, Bool.and_eq_true] at h
    cases q : k.arg with
    | none => rw [q] at h; cases h.1
    | some a => rw [List.filterMap_cons, q]; exact congrArg Nat.succ (ih h.2)
theorem chkL_len {T : Tb} {N : List Str} {sc : Scope} : ∀ {es : List Ex} {vs : List Expr}, chkL T N sc es vs = true → es.length = vs.length
  | [], vs, h => by
    unfold chkL at h
    rw [List.isEmpty_iff] at h
    subst h
    rfl
  | e :: es, vs, h => by
    unfold chkL at h
    split at h
    · rw [Bool.and_eq_true] at h
      exact congrArg Nat.succ (chkL_len h.2)
    · cases h
section
variable {T : Tb} {G : List PV} {C : Ora} {N : List Str}
mutual
theorem okE : ∀ (e : Ex) (e' : Expr) {sc : Scope} {fc : Str → Bool} {X : Cx}, Bk T G C N sc fc X → chkE T N sc e e' = true → SE X (ev G C e) e' ∧ (tst e = true → ST X (ev G C e) e')
  | .var i, e', sc, fc, X, c, h => by
    unfold chkE at h
    split at h
    · obtain ⟨h1, h2, h3, h4⟩ := c.nm h
      have se : SE X (fun E => gVar E i) _ := se_var (pos := ‹Pos›) h1 h2 h3 h4
      exact ⟨se, fun _ => st_plain se fun _ => rfl⟩
    · cases h
  | .frz i, e', sc, fc, X, c, h => by
    unfold chkE at h
    split at h
    · obtain ⟨h1, h2, h3, h4⟩ := c.nm h
      have se : SE X (fun E => gFrz E i) _ := se_frz (pos := ‹Pos›) h1 h2 h3 h4
      exact ⟨se, fun _ => st_plain se fun _ => rfl⟩
    · cases h
  | .cst v, e', sc, fc, X, c, h => by
    unfold chkE at h
    split at h
    · have se : SE X (fun _ S => some (.v v, S)) _ := se_cst (pos := ‹Pos›) (j := ‹Nat›) h
      exact ⟨se, fun _ => st_plain se fun _ => rfl⟩
    · cases h
  | .glo g, e', sc, fc, X, c, h => by
    unfold chkE at h
    split at h
    · rename_i x p
      rw [Bool.and_eq_true, Bool.and_eq_true] at h
      have se : SE X (fun _ => gGlo G g) (.Name x p) := by
        cases q : G[g]? with
        | none =>
          refine ⟨fun pins s σ H Q I ⟨ρ, E, S, z, S', hs, he, hf, k⟩ => ?_⟩
          simp only [gGlo] at hf
          rw [q] at hf
          cases hf
        | some y =>
          by_cases hy : isCon y = true
          · refine ⟨fun pins s σ H Q I ⟨ρ, E, S, z, S', hs, he, hf, k⟩ => ?_⟩
            simp only [gGlo] at hf
            rw [q] at hf
            simp only [hy] at hf
            cases hf
          · obtain ⟨u, v, h1, h2, h3⟩ := c.glo g x y (of_decide_eq_true h.1) q (by simpa using hy)
            exact se_glo (c.gl h.2.1) h1 h2 q (by simpa using hy) h3 (dbg_of h.2.2).1
      exact ⟨se, fun _ => st_plain se fun _ => rfl⟩
    · cases h
  | .bin op a b, e', sc, fc, X, c, h => by
    unfold chkE at h
    split at h
    · rw [Bool.and_eq_true, Bool.and_eq_true] at h
      have e1 := of_decide_eq_true h.1
      subst e1
      have se : SE X (fun E => gBin op (ev G C a E) (ev G C b E)) _ := se_bin (pos := ‹Pos›) (okE a _ c h.2.1).1 (okE b _ c h.2.2).1
      exact ⟨se, fun _ => st_plain se fun _ => rfl⟩
    · cases h
  | .neg a, e', sc, fc, X, c, h => by
    unfold chkE at h
    split at h
    · rw [Bool.and_eq_true] at h
      have e1 := of_decide_eq_true h.1
      subst e1
      have se : SE X (fun E => gNeg (ev G C a E)) _ := se_neg (pos := ‹Pos›) (okE a _ c h.2).1
      exact ⟨se, fun _ => st_plain se fun _ => rfl⟩
    · cases h
  | .no a, e', sc, fc, X, c, h => by
    unfold chkE at h
    split at h
    · rw [Bool.and_eq_true, Bool.and_eq_true] at h
      have e1 := of_decide_eq_true h.1
      subst e1
      have st := (okE a _ c h.2.2).2 h.2.1
      exact ⟨se_no (pos := ‹Pos›) (okE a _ c h.2.2).1, fun _ => st_no (pos := ‹Pos›) st⟩
    · cases h
  | .cmp op a b, e', sc, fc, X, c, h => by
    unfold chkE at h
    split at h
    · rw [Bool.and_eq_true, Bool.and_eq_true, Bool.and_eq_true] at h
      have e1 := of_decide_eq_true h.1
      subst e1
      have sa := (okE a _ c h.2.2.1).1
      have sb := (okE b _ c h.2.2.2).1
      exact ⟨se_cmp (pos := ‹Pos›) c.hu sa sb (notSet_in h.2.1), fun _ => st_cmp (pos := ‹Pos›) c.hu sa sb (notSet_in h.2.1)⟩
    · cases h
  | .cmp2 op op2 a b d, e', sc, fc, X, c, h => by
    unfold chkE at h
    split at h
    · simp only [Bool.and_eq_true] at h
      obtain ⟨h1, h2, h3, h4, h5, h6⟩ := h
      have e1 := of_decide_eq_true h1
      have e2 := of_decide_eq_true h2
      subst e1 e2
      have sa := (okE a _ c h4).1
      have sb := (okE b _ c h5).1
      have sd := (okE d _ c h6).1
      refine ⟨se_cmp2 (pos := ‹Pos›) c.hu sa sb sd (pe_chain (op_cmp c.hu op) (op_cmp c.hu op2) sa sb sd ?_), fun z => nomatch z⟩
      exact notSet_in h3
    · cases h
  | .bop isAnd es, e', sc, fc, X, c, h => by
    unfold chkE at h
    split at h
    · rw [Bool.and_eq_true, Bool.and_eq_true] at h
      have e1 := of_decide_eq_true h.1
      subst e1
      have r := okB isAnd es _ ‹Pos› c (by simpa using h.2.1) h.2.2
      exact ⟨r.1, fun z => (r.2 z).pt⟩
    · cases h
  | .ife d a b, e', sc, fc, X, c, h => by
    unfold chkE at h
    split at h
    · simp only [Bool.and_eq_true] at h
      obtain ⟨h1, h2, h3, h4⟩ := h
      exact ⟨se_ife (pos := ‹Pos›) ((okE d _ c h2).2 h1) (okE a _ c h3).1 (okE b _ c h4).1, fun z => nomatch z⟩
    · cases h
  | .tup es, e', sc, fc, X, c, h => by
    unfold chkE at h
    split at h
    · rw [Bool.and_eq_true] at h
      have se : SE X (fun E => gTup (evs G C es E)) _ := se_tup (pos := ‹Pos›) (j := ‹Nat›) (okL es _ c h.1 h.2)
      exact ⟨se, fun _ => st_plain se fun _ => rfl⟩
    · cases h
  | .lst es, e', sc, fc, X, c, h => by
    unfold chkE at h
    split at h
    · rw [Bool.and_eq_true] at h
      have se : SE X (fun E => gLst (evs G C es E)) _ := se_lst (pos := ‹Pos›) (okL es _ c h.1 h.2)
      exact ⟨se, fun _ => st_plain se fun _ => rfl⟩
    · cases h
  | .ix a b, e', sc, fc, X, c, h => by
    unfold chkE at h
    split at h
    · simp only [Bool.and_eq_true] at h
      obtain ⟨h1, h2, h3⟩ := h
      have se : SE X (fun E => gIx ixP (ev G C a E) (ev G C b E)) _ := se_ix (pos := ‹Pos›) (plainIx h1) (okE a _ c h2).1 (okE b _ c h3).1
      exact ⟨se, fun _ => st_plain se fun _ => rfl⟩
    · cases h
  | .dix _ _, e', sc, fc, X, c, h => by unfold chkE at h; cases h
  | .sl a lo hi, e', sc, fc, X, c, h => by
    unfold chkE at h
    split at h
    · rename_i a' l u p1 p2
      simp only [Bool.and_eq_true] at h
      obtain ⟨h1, h2, h3⟩ := h
      have se : SE X (fun E => gSl (ev G C a E) (evO G C lo E) (evO G C hi E)) (.Subscript a' (.Slice l u none p1) p2) := se_sl (okE a _ c h1).1 (okO lo _ c h2) (okO hi _ c h3)
      exact ⟨se, fun _ => st_plain se fun _ => rfl⟩
    · cases h
  | .rev a, e', sc, fc, X, c, h => by
    unfold chkE at h
    split at h
    · rename_i a' k p1 p2 p3 p4
      have se : SE X (fun E => gRev (ev G C a E)) (.Subscript a' (.Slice none none (some (.UnaryOp .USub (.Constant (.int 1) k p1) p2)) p3) p4) := se_rev (okE a _ c h).1
      exact ⟨se, fun _ => st_plain se fun _ => rfl⟩
    · cases h
  | .call f es, e', sc, fc, X, c, h => by
    unfold chkE at h
    split at h
    · rename_i x p vs pos
      simp only [Bool.and_eq_true] at h
      obtain ⟨h1, h2, h3, h4, h5⟩ := h
      obtain ⟨n, fa, fd, ps, F, hr, hm, hk, hb, _⟩ := c.fnO f x es.length (of_decide_eq_true h1)
      have sa := okL es vs c h4 h5
      have se : SE X (fun E => gCall C f (evs G C es E)) (.Call (.Name x p) vs [] pos) := by
        cases vs with
        | nil =>
          cases es with
          | nil => exact se_call0 F hr (c.gl h2) hm hk hb (dbg_of h3).1
          | cons _ _ => simp [chkL] at h5
        | cons v vs =>
          rw [List.all_cons, Bool.and_eq_true] at h4
          exact se_call F hr (c.gl h2) hm hk hb sa (dbg_of h3).1 (star_cons h4.1) (star_all h4.2) fun E S vs S' q => evs_len es q
      exact ⟨se, fun _ => st_plain se fun _ => rfl⟩
    · cases h
  | .callS f es, e', sc, fc, X, c, h => by
    unfold chkE at h
    split at h
    · rename_i x p v vs pos
      simp only [Bool.and_eq_true] at h
      obtain ⟨h1, h2, h3, h4, h5⟩ := h
      obtain ⟨n, fa, fd, ps, F, hr, hm, hk, hb, _⟩ := c.fnO f x es.length (of_decide_eq_true h1)
      have sa := okL es (v :: vs) c h4 h5
      rw [List.all_cons, Bool.and_eq_true] at h4
      have se : SE X (fun E => gCallS C f (evs G C es E)) (.Call (.Name x p) (v :: vs) [] pos) := se_callS F hr (c.gl h2) hm hk hb sa (dbg_of h3).1 (star_cons h4.1) (star_all h4.2) fun E S vs S' q => evs_len es q
      exact ⟨se, fun _ => st_plain se fun _ => rfl⟩
    · cases h
  | .callK f js es, e', sc, fc, X, c, h => by
    unfold chkE at h
    split at h
    · rename_i x p kws pos
      simp only [Bool.and_eq_true] at h
      obtain ⟨h1, h2, h3, h4, h5, h6, h7⟩ := h
      obtain ⟨n, fa, fd, ps, F, hr, hm, hk, hb, hkw⟩ := c.fnO f x es.length (of_decide_eq_true h1)
      have kb := hkw _ js (by simpa using h4)
      have sk := okK es kws c h7
      have se : SE X (fun E => gCallK C f js (evs G C es E)) (.Call (.Name x p) [] kws pos) := se_callK F hr (c.gl h2) hm hk kb sk.1 h5 rfl (dbg_of h3).1 (of_decide_eq_true h6) fun E S vs S' q => by
        rw [evs_len es q, sk.2]
        exact (filt_len h5).symm
      exact ⟨se, fun _ => st_plain se fun _ => rfl⟩
    · cases h
  | .bi b es, e', sc, fc, X, c, h => by
    unfold chkE at h
    split at h
    · rename_i x p v vs pos
      simp only [Bool.and_eq_true] at h
      obtain ⟨h1, h2, h3, h4⟩ := h
      have e1 := of_decide_eq_true h1
      subst e1
      obtain ⟨g1, g2⟩ := c.blt h2
      have sa := okL es _ c h3 h4
      rw [List.all_cons, Bool.and_eq_true] at h3
      have se : SE X (fun E => gBi b (evs G C es E)) (.Call (.Name (biN b) p) (v :: vs) [] pos) := se_bi c.calm c.hu g1 g2 sa (star_cons h3.1) (star_all h3.2)
      exact ⟨se, fun _ => st_plain se fun _ => rfl⟩
    · cases h
  | .isi a ts, e', sc, fc, X, c, h => by
    unfold chkE at h
    split at h
    · rename_i x p a' c' pos
      simp only [Bool.and_eq_true] at h
      obtain ⟨h1, h2, h3, h4, h5, h6, h7⟩ := h
      have e1 := of_decide_eq_true h1
      subst e1
      obtain ⟨g1, g2⟩ := c.blt h2
      have sa := (okE a _ c h4).1
      have hts : ∀ t ∈ ts, Gl X (Str.ofString (tyS t)) ∧ X.mg (Str.ofString (tyS t)) = none := fun t ht => c.blt (List.all_eq_true.mp h5 t ht)
      have se : SE X (fun E => gIsi ts (ev G C a E)) (.Call (.Name "isinstance" p) [a', c'] [] pos) := by
        split at h7
        · rename_i t y p2
          have e2 := of_decide_eq_true h7
          subst e2
          have ht := hts t (List.mem_cons_self ..)
          exact se_isi1 g1 g2 ht.1 ht.2 sa (star_cons h3) rfl
        · exact se_isiT g1 g2 h7 (Nat.le_of_ble_eq_true h6) hts sa (star_cons h3) rfl
        · cases h7
      exact ⟨se, fun _ => st_plain se fun _ => rfl⟩
    · cases h
  | .me m o es, e', sc, fc, X, c, h => by
    unfold chkE at h
    split at h
    · rename_i o' y ap vs p
      simp only [Bool.and_eq_true] at h
      obtain ⟨h1, h2, h3, h4, h5⟩ := h
      have e1 := of_decide_eq_true h1
      subst e1
      have so := (okE o _ c h4).1
      have se : SE X (fun E => gMe m (ev G C o E) (evs G C es E)) (.Call (.Attribute o' (meName m) ap) vs [] p) := by
        split at h5
        · rw [List.isEmpty_iff] at h5
          subst h5
          exact se_bits so (base_ok h2) h3
        · rename_i m v
          simp only [Bool.and_eq_true] at h5
          obtain ⟨k1, k2, k3, k4⟩ := h5
          have k3 := of_decide_eq_true k3
          cases es with
          | nil => cases k3
          | cons e es =>
            cases es with
            | cons _ _ => simp at k3
            | nil =>
              have k5 : chkE T N sc e v = true := by simpa [chkL] using k4
              have se : SE X (ev G C e) v := (okE e v c k5).1
              exact se_me1 k1 so se (by rw [star_cons k2]; rfl) (base_ok h2) h3
        · cases h5
      exact ⟨se, fun _ => st_plain se fun _ => rfl⟩
    · cases h
  | .comp own tg it cond elt, e', sc, fc, X, c, h => by
    unfold chkE at h
    split at h
    · rename_i elt' tg' it' ifs scope pos
      simp only [Bool.and_eq_true] at h
      obtain ⟨h1, h2, h3, h4, h5, h6, h7⟩ := h
      have hk : scope.kind = .function := (blkOk_by h2).kind
      have es := map_snd own fun i => N.getD i Str.empty
      have ok : BlkOk X.N X.env.scope scope (own.map fun i => (N.getD i Str.empty, i)) := by
        rw [c.eN, c.eS]
        exact blkOk_by h2
      have se := se_comp (X := X) (t := tg) (fI := evI G C it) (cond := evC G C cond) (elt := ev G C elt) (pos := pos) c.calm (by rw [c.eN]; exact c.nd) (fun i hi => by rw [es]; simpa using List.all_eq_true.mp h1 i hi) (okI it tg' it' c h4) ok
        (fun s H D cl fp => okG tg tg' (c.blk hk s H D cl fp) h5) (fun s H D cl fp => okC cond ifs (c.blk hk s H D cl fp) h6) (fun s H D cl fp => (okE elt elt' (c.blk hk s H D cl fp) h7).1) fun x => notSet_it h3 x
      rw [es] at se
      exact ⟨se, fun _ => st_plain (a := .ListComp elt' [⟨tg', it', ifs, 0⟩] scope pos) se fun _ => rfl⟩
    · cases h
  | .dsp _ _ _, e', sc, fc, X, c, h => by unfold chkE at h; cases h
  | .pop i, e', sc, fc, X, c, h => by
    unfold chkE at h
    split at h
    · rename_i y np m ap cp
      simp only [Bool.and_eq_true] at h
      obtain ⟨h1, h2, h3⟩ := h
      have e1 := of_decide_eq_true h1
      subst e1
      obtain ⟨n1, n2, n3, n4⟩ := c.nm h2
      have se := se_pop (np := np) (cpos := cp) n1 n2 n3 n4 (base_ok rfl) h3
      exact ⟨se, fun _ => st_plain se fun _ => rfl⟩
    · cases h
  | .mk a, e', sc, fc, X, c, h => by
    unfold chkE at h
    exact ⟨se_mk (okE a _ c h).1, fun z => nomatch z⟩
  | .gdx g b, e', sc, fc, X, c, h => by
    unfold chkE at h
    split at h
    · rename_i x p b' pos
      simp only [Bool.and_eq_true] at h
      obtain ⟨h1, h2, h3, h4, h5⟩ := h
      have sb := (okE b _ c h5).1
      have se : SE X (fun E => gGdx G g (ev G C b E)) (.Subscript (.Name x p) b' pos) := by
        by_cases hd : ∃ t ks vs, G[g]? = some (.dic t ks vs)
        · obtain ⟨t, ks, vs, hd⟩ := hd
          exact se_gdx (c.dic g x t ks vs (of_decide_eq_true h1) hd) (c.gl h2) (dbg_of h3).1 sb (plainIx h4)
        · refine ⟨fun pins s σ H Q I ⟨ρ, E, S, z, S', hs, he, hf, k⟩ => ?_⟩
          obtain ⟨_, _, t, ks, vs, _, _, _, q, _⟩ := gGdx_inv hf
          exact absurd ⟨t, ks, vs, q⟩ hd
      exact ⟨se, fun _ => st_plain se fun _ => rfl⟩
    · cases h
  | .gin neg g b, e', sc, fc, X, c, h => by
    unfold chkE at h
    split at h
    · rename_i b' o x p pos
      simp only [Bool.and_eq_true] at h
      obtain ⟨h0, h1, h2, h3, h5⟩ := h
      have e0 := of_decide_eq_true h0
      subst e0
      have sb := (okE b _ c h5).1
      by_cases hd : ∃ t ks vs, G[g]? = some (.dic t ks vs)
      · obtain ⟨t, ks, vs, hd⟩ := hd
        exact ⟨se_gin (c.dic g x t ks vs (of_decide_eq_true h1) hd) (c.gl h2) (dbg_of h3).1 sb, fun _ => st_gin (c.dic g x t ks vs (of_decide_eq_true h1) hd) (c.gl h2) (dbg_of h3).1 sb⟩
      · refine ⟨⟨fun pins s σ H Q I ⟨ρ, E, S, z, S', hs, he, hf, k⟩ => ?_⟩, fun _ => ⟨fun pins s σ H Q I ⟨ρ, E, S, z, S', pp, hs, he, hf, hp, k⟩ => ?_⟩⟩
        · obtain ⟨_, _, t, ks, vs, _, _, _, q, _⟩ := gGin_inv hf
          exact absurd ⟨t, ks, vs, q⟩ hd
        · obtain ⟨_, _, t, ks, vs, _, _, _, q, _⟩ := gGin_inv hf
          exact absurd ⟨t, ks, vs, q⟩ hd
    · cases h
  | .heard f es, e', sc, fc, X, c, h => by
    unfold chkE at h
    split at h
    · rename_i x p y q vs pos
      simp only [Bool.and_eq_true] at h
      obtain ⟨h1, h2, h3, h4, h5, h6, h7, h8, h9⟩ := h
      obtain ⟨n, fa, fd, ps, fb, F, hr, hm, hk, hb, hmy⟩ := c.hrd x (of_decide_eq_true h1) f y (of_decide_eq_true h2)
      have sa := okL es vs c h7 h9
      have h8 := of_decide_eq_true h8
      have se : SE X (fun E => gCall C (f + far2) (evs G C es E)) (.Call (.Name x p) (.Name y q :: vs) [] pos) := se_heard F hr (c.gl h3) hm hk hb (c.gl h5) hmy (dbg_of h6).1 sa (dbg_of h4).1 (star_all h7) fun E S vs S' e => (evs_len es e).trans h8
      exact ⟨se, fun _ => st_plain se fun _ => rfl⟩
    · cases h
  | .val _, e', sc, fc, X, c, h => by unfold chkE at h; cases h
  | .rng _, e', sc, fc, X, c, h => by unfold chkE at h; cases h
  | .enum _, e', sc, fc, X, c, h => by unfold chkE at h; cases h
  | .zip _ _, e', sc, fc, X, c, h => by unfold chkE at h; cases h
  | .items _, e', sc, fc, X, c, h => by unfold chkE at h; cases h
  | .values _, e', sc, fc, X, c, h => by unfold chkE at h; cases h
theorem okL : ∀ (es : List Ex) (es' : List Expr) {sc : Scope} {fc : Str → Bool} {X : Cx}, Bk T G C N sc fc X → es'.all noStar = true → chkL T N sc es es' = true → SA X (evs G C es) es'
  | [], es', sc, fc, X, c, hs, h => by
    unfold chkL at h
    rw [List.isEmpty_iff] at h
    subst h
    exact sa_nil
  | e :: es, es', sc, fc, X, c, hs, h => by
    unfold chkL at h
    split at h
    · rw [Bool.and_eq_true] at h
      rw [List.all_cons, Bool.and_eq_true] at hs
      exact sa_cons (okE e _ c h.1).1 (okL es _ c hs.2 h.2) (star_cons hs.1)
    · cases h
theorem okK : ∀ (es : List Ex) (kws : List Keyword) {sc : Scope} {fc : Str → Bool} {X : Cx}, Bk T G C N sc fc X → chkL T N sc es (kws.map (·.value)) = true → SK X (evs G C es) kws ∧ es.length = kws.length
  | [], kws, sc, fc, X, c, h => by
    unfold chkL at h
    rw [List.isEmpty_iff, List.map_eq_nil_iff] at h
    subst h
    exact ⟨sk_nil, rfl⟩
  | e :: es, kws, sc, fc, X, c, h => by
    unfold chkL at h
    cases kws with
    | nil => cases h
    | cons k kws =>
      obtain ⟨ka, kv, kp⟩ := k
      have h : (chkE T N sc e kv && chkL T N sc es (kws.map (·.value))) = true := h
      rw [Bool.and_eq_true] at h
      have r := okK es kws c h.2
      exact ⟨sk_cons (okE e _ c h.1).1 r.1, congrArg Nat.succ r.2⟩
theorem okB (isAnd : Bool) : ∀ (es : List Ex) (es' : List Expr) (pos : Pos) {sc : Scope} {fc : Str → Bool} {X : Cx}, Bk T G C N sc fc X → es ≠ [] → chkL T N sc es es' = true →
    SE X (evB G C isAnd es) (.BoolOp (if isAnd then .And else .Or) es' pos) ∧ (tsts es = true → SW X (evB G C isAnd es) (.BoolOp (if isAnd then .And else .Or) es' pos))
  | [], es', pos, sc, fc, X, c, ne, h => absurd rfl ne
  | [e], es', pos, sc, fc, X, c, ne, h => by
    unfold chkL at h
    split at h
    · rename_i x xs
      rw [Bool.and_eq_true] at h
      have h2 := h.2
      unfold chkL at h2
      rw [List.isEmpty_iff] at h2
      subst h2
      have r := okE e x c h.1
      refine ⟨se_one r.1, fun z => ?_⟩
      have z : tst e = true := by simpa [tsts] using z
      cases isAnd with
      | true => exact sw_and1 (r.2 z)
      | false => exact sw_or1 (r.2 z)
    · cases h
  | e :: e2 :: es, es', pos, sc, fc, X, c, ne, h => by
    unfold chkL at h
    split at h
    · rename_i x xs
      rw [Bool.and_eq_true] at h
      have r := okE e x c h.1
      have r2 := okB isAnd (e2 :: es) xs pos c (by simp) h.2
      have hx : ∃ y ys, xs = y :: ys := by
        have h2 := h.2
        unfold chkL at h2
        split at h2
        · exact ⟨_, _, rfl⟩
        · cases h2
      obtain ⟨y, ys, rfl⟩ := hx
      cases isAnd with
      | true =>
        refine ⟨se_and r.1 r2.1, fun z => ?_⟩
        rw [tsts, Bool.and_eq_true] at z
        exact sw_and (r.2 z.1) (r2.2 z.2)
      | false =>
        refine ⟨se_or r.1 r2.1, fun z => ?_⟩
        rw [tsts, Bool.and_eq_true] at z
        exact sw_or (r.2 z.1) (r2.2 z.2)
    · cases h
theorem okO : ∀ (e : Option Ex) (e' : Option Expr) {sc : Scope} {fc : Str → Bool} {X : Cx}, Bk T G C N sc fc X → chkO T N sc e e' = true → SO X (evO G C e) e'
  | none, e', sc, fc, X, c, h => by
    unfold chkO at h
    rw [Option.isNone_iff_eq_none] at h
    subst h
    exact so_none
  | some e, e', sc, fc, X, c, h => by
    unfold chkO at h
    split at h
    · exact so_some (okE e _ c h).1
    · cases h
theorem okC : ∀ (e : Option Ex) (es : List Expr) {sc : Scope} {fc : Str → Bool} {X : Cx}, Bk T G C N sc fc X → chkC T N sc e es = true → PTs X es (ttOf X.K (evC G C e))
  | none, es, sc, fc, X, c, h => by
    unfold chkC at h
    rw [List.isEmpty_iff] at h
    subst h
    exact pts_nil
  | some e, es, sc, fc, X, c, h => by
    unfold chkC at h
    split at h
    · rw [Bool.and_eq_true] at h
      exact pts_one ((okE e _ c h.2).2 h.1)
    · cases h
theorem okI : ∀ (e : Ex) (tg e' : Expr) {sc : Scope} {fc : Str → Bool} {X : Cx}, Bk T G C N sc fc X → chkI T N sc e tg e' = true → SI X (evI G C e) tg e'
  | .val a, tg, e', sc, fc, X, c, h => by
    unfold chkI at h
    exact si_val (okE a _ c h).1
  | .rng es, tg, e', sc, fc, X, c, h => by
    unfold chkI at h
    split at h
    · rename_i x p vs pos
      simp only [Bool.and_eq_true] at h
      obtain ⟨h1, h2, h3, h4, h5⟩ := h
      have e1 := of_decide_eq_true h1
      subst e1
      obtain ⟨g1, g2⟩ := c.blt h2
      have sa := okL es vs c h3 h4
      rw [Bool.or_eq_true] at h5
      have el : es.length = vs.length := chkL_len h4
      rcases h5 with h5 | h5
      · have h5 := of_decide_eq_true h5
        match vs, h3, sa, el with
        | [v], h3, sa, _ =>
          rw [List.all_cons, Bool.and_eq_true] at h3
          exact si_rng1 g1 g2 sa (by rw [star_cons h3.1]; rfl) fun E S vs S' q => by rw [evs_len es q]; exact h5
        | [], _, _, el => rw [h5] at el; cases el
        | _ :: _ :: _, _, _, el => rw [h5] at el; simp at el
      · have h5 := of_decide_eq_true h5
        match vs, h3, sa, el with
        | [v, w], h3, sa, _ =>
          rw [List.all_cons, List.all_cons, Bool.and_eq_true, Bool.and_eq_true] at h3
          have s2 : starEach [w] X.env = [(false, eval w X.env)] := by rw [star_cons h3.2.1]; rfl
          exact si_rng2 g1 g2 sa (by rw [star_cons h3.1, s2]) s2 fun E S vs S' q => by rw [evs_len es q]; exact h5
        | [], _, _, el => rw [h5] at el; cases el
        | [_], _, _, el => rw [h5] at el; cases el
        | _ :: _ :: _ :: _, _, _, el => rw [h5] at el; simp at el
    · cases h
  | .enum a, tg, e', sc, fc, X, c, h => by
    unfold chkI at h
    split at h
    · simp only [Bool.and_eq_true] at h
      obtain ⟨h1, h2, h3, h4⟩ := h
      have e1 := of_decide_eq_true h1
      subst e1
      obtain ⟨g1, g2⟩ := c.blt h2
      exact si_enum g1 g2 (okE a _ c h4).1 (by rw [star_cons h3]; rfl)
    · cases h
  | .zip a b, tg, e', sc, fc, X, c, h => by
    unfold chkI at h
    split at h
    · simp only [Bool.and_eq_true] at h
      obtain ⟨h1, h2, h3, h4, h5, h6⟩ := h
      have e1 := of_decide_eq_true h1
      subst e1
      obtain ⟨g1, g2⟩ := c.blt h2
      exact si_zip g1 g2 (okE a _ c h5).1 (okE b _ c h6).1 (star_cons h3) (star_cons h4) (by rw [star_cons h4]; rfl)
    · cases h
  | .var _, tg, e', sc, fc, X, c, h => by unfold chkI at h; cases h
  | .frz _, tg, e', sc, fc, X, c, h => by unfold chkI at h; cases h
  | .cst _, tg, e', sc, fc, X, c, h => by unfold chkI at h; cases h
  | .glo _, tg, e', sc, fc, X, c, h => by unfold chkI at h; cases h
  | .bin _ _ _, tg, e', sc, fc, X, c, h => by unfold chkI at h; cases h
  | .neg _, tg, e', sc, fc, X, c, h => by unfold chkI at h; cases h
  | .no _, tg, e', sc, fc, X, c, h => by unfold chkI at h; cases h
  | .cmp _ _ _, tg, e', sc, fc, X, c, h => by unfold chkI at h; cases h
  | .cmp2 _ _ _ _ _, tg, e', sc, fc, X, c, h => by unfold chkI at h; cases h
  | .bop _ _, tg, e', sc, fc, X, c, h => by unfold chkI at h; cases h
  | .ife _ _ _, tg, e', sc, fc, X, c, h => by unfold chkI at h; cases h
  | .tup _, tg, e', sc, fc, X, c, h => by unfold chkI at h; cases h
  | .lst _, tg, e', sc, fc, X, c, h => by unfold chkI at h; cases h
  | .ix _ _, tg, e', sc, fc, X, c, h => by unfold chkI at h; cases h
  | .dix _ _, tg, e', sc, fc, X, c, h => by unfold chkI at h; cases h
  | .sl _ _ _, tg, e', sc, fc, X, c, h => by unfold chkI at h; cases h
  | .rev _, tg, e', sc, fc, X, c, h => by unfold chkI at h; cases h
  | .call _ _, tg, e', sc, fc, X, c, h => by unfold chkI at h; cases h
  | .callS _ _, tg, e', sc, fc, X, c, h => by unfold chkI at h; cases h
  | .callK _ _ _, tg, e', sc, fc, X, c, h => by unfold chkI at h; cases h
  | .bi _ _, tg, e', sc, fc, X, c, h => by unfold chkI at h; cases h
  | .isi _ _, tg, e', sc, fc, X, c, h => by unfold chkI at h; cases h
  | .me _ _ _, tg, e', sc, fc, X, c, h => by unfold chkI at h; cases h
  | .comp _ _ _ _ _, tg, e', sc, fc, X, c, h => by unfold chkI at h; cases h
  | .items _, tg, e', sc, fc, X, c, h => by unfold chkI at h; cases h
  | .values _, tg, e', sc, fc, X, c, h => by unfold chkI at h; cases h
  | .dsp _ _ _, tg, e', sc, fc, X, c, h => by unfold chkI at h; cases h
  | .heard _ _, tg, e', sc, fc, X, c, h => by unfold chkI at h; cases h
  | .mk _, tg, e', sc, fc, X, c, h => by unfold chkI at h; cases h
  | .pop _, tg, e', sc, fc, X, c, h => by unfold chkI at h; cases h
  | .gdx _ _, tg, e', sc, fc, X, c, h => by unfold chkI at h; cases h
  | .gin _ _ _, tg, e', sc, fc, X, c, h => by unfold chkI at h; cases h
end
end
end Py

set_option Elab.async false
set_option linter.all false
set_option maxRecDepth 100000
set_option maxHeartbeats 4000000
namespace Py
open PySem PySem.Spec PyProof.Rows L2
def isLC : Ex → Bool
  | .comp .. => true
  | .mk (.comp ..) => true
  | _ => false
def parN (sc : Scope) (l : Nat) (x : Str) (p : Pos) : Bool := decide (sc.names.lookup x = some .local) && (p.line == l)
section
variable (T : Tb) (N : List Str)
mutual
def chkS (sc : Scope) (fc : Str → Bool) : Stm → Stmt → Bool
  | .expr e, s => (match s with
    | .Expr e' _ => notComp e' && chkE T N sc e e'
    | _ => false)
  | .app x e, s => (match s with
    | .Expr (.Call (.Attribute (.Name y _) m ap) [a] [] cp) _ => decide (m = "append") && (nmB N sc x y && ((ap.endLine == cp.line) && (noStar a && chkE T N sc e a)))
    | _ => false)
  | .appx o e, s => (match s with
    | .Expr (.Call (.Attribute o' m ap) [a] [] cp) _ => decide (m = "append") && (notCall o' && (chkE T N sc o o' && ((ap.endLine == cp.line) && (noStar a && chkE T N sc e a))))
    | _ => false)
  | .ext x e, s => (match s with
    | .Expr (.Call (.Attribute (.Name y _) m ap) [a] [] cp) _ => decide (m = "extend") && (nmB N sc x y && ((ap.endLine == cp.line) && (noStar a && chkE T N sc e a)))
    | _ => false)
  | .set x e, s => (match s with
    | .Assign [.Name y _] e' _ => decide (N[x]? = some y) && (locB sc y && ((decide (sc.names.lookup y = some .local) || fc y) && ((notComp e' || isLC e) && chkE T N sc e e')))
    | _ => false)
  | .tset t e, s => (match s with
    | .Assign [tg] e' _ => notComp e' && ((swC tg e' || swL sc tg) && (noStar tg && (chkG N sc fc t tg && chkE T N sc e e')))
    | _ => false)
  | .par xs es, s => (match s with
    | .Assign [.Tuple ts _ _] (.Tuple vs _ _) _ => (match xs, ts with
      | [i, j], [.Name x px, .Name y py] => decide (vs.length = 2) && (decide (N[i]? = some x) && (decide (N[j]? = some y) && (!(decide (i = j)) && (!(decide (x = y)) && (parN sc px.line x px && (parN sc px.line y py && (vs.all noStar && (!(vs.all (foldedForSure 8)) && (!(vs.all (constantsAlone 8)) && chkL T N sc es vs)))))))))
      | [i, j, l], [.Name x px, .Name y py, .Name z pz] => decide (vs.length = 3) && (decide (N[i]? = some x) && (decide (N[j]? = some y) && (decide (N[l]? = some z) && (!(decide (i = j)) && (!(decide (i = l)) && (!(decide (j = l)) && (!(decide (x = y)) && (!(decide (x = z)) && (!(decide (y = z)) &&
          (parN sc px.line x px && (parN sc px.line y py && (parN sc px.line z pz && (vs.all noStar && (!(vs.all (foldedForSure 8)) && (!(vs.all (constantsAlone 8)) && chkL T N sc es vs)))))))))))))))
      | _, _ => false)
    | _ => false)
  | .aug x op e, s => (match s with
    | .AugAssign (.Name y _) o e' _ => decide (o = opOf op) && (decide (N[x]? = some y) && (locB sc y && ((decide (sc.names.lookup y = some .local) || fc y) && chkE T N sc e e')))
    | _ => false)
  | .augi x i op e, s => (match s with
    | .AugAssign (.Subscript (.Name y _) k _) o e' _ => decide (o = opOf op) && (nmB N sc x y && (notSlice k && (chkE T N sc i k && chkE T N sc e e')))
    | _ => false)
  | .seti x i e, s => (match s with
    | .Assign [.Subscript (.Name y _) k _] e' _ => nmB N sc x y && (notComp e' && (chkE T N sc i k && (chkE T N sc e e' && notSlice k)))
    | _ => false)
  | .ret e, s => (match s with
    | .Return (some e') _ => chkE T N sc e e'
    | _ => false)
  | .retN, s => (match s with
    | .Return none _ => true
    | _ => false)
  | .ife c a b, s => (match s with
    | .If c' a' b' _ => tst c && (chkE T N sc c c' && (chkSs sc fc a a' && chkSs sc fc b b'))
    | _ => false)
  | .forr t it body, s => (match s with
    | .For tg it' body' [] _ => notSet it' && (chkI T N sc it tg it' && (chkG N sc fc t tg && chkSs sc fc body body'))
    | _ => false)
  | .whil c body, s => (match s with
    | .While c' body' [] _ => tst c && (chkE T N sc c c' && chkSs sc fc body body')
    | _ => false)
  | .brk, s => (match s with | .Break _ => true | _ => false)
  | .cont, s => (match s with | .Continue _ => true | _ => false)
  | .pass, s => (match s with | .Pass _ => true | _ => false)
  | .never, _ => true
  | .rais c, s => (match s with
    | .Raise (some (.Call (.Name x _) [] [] _)) none _ => decide (T.exc[c]? = some x) && (glB sc x && dbg x)
    | _ => false)
  | .tryc f es c a, s => (match s with
    | .Try [.Expr (.Call (.Name x _) (v :: vs) [] cp) _] [.ExceptHandler (some (.Name y _)) none [.Return (some (.Constant k _ _)) _] _] [] [] _ =>
      decide (T.fns[f]? = some (x, es.length)) && (glB sc x && (dbg x && ((v :: vs).all noStar && (chkL T N sc es (v :: vs) && (decide (T.exc[c]? = some y) && (glB sc y && (dbg y && cstOk a k)))))))
    | _ => false)
def chkSs (sc : Scope) (fc : Str → Bool) : List Stm → List Stmt → Bool
  | [], ss => ss.isEmpty
  | s :: r, ss => (match ss with
    | s' :: r' => chkS sc fc s s' && chkSs sc fc r r'
    | [] => false)
end
end
theorem line_of {sc : Scope} {l : Nat} {x : Str} {p : Pos} (h : parN sc l x p = true) : sc.names.lookup x = some .local ∧ p.line = l := by
  unfold parN at h
  rw [Bool.and_eq_true] at h
  exact ⟨of_decide_eq_true h.1, by simpa using h.2⟩
theorem blockF {env : PySem.Env} (hk : env.scope.kind = .function) : env.blockKind = .function := by
  unfold Env.blockKind
  rw [hk]
  rfl
theorem no_star {vs : List Expr} (h : vs.all noStar = true) : ¬ ∃ z, z ∈ vs ∧ (match z with | .Starred .. => true | _ => false) = true := by
  rintro ⟨z, hz, q⟩
  have := List.all_eq_true.mp h z hz
  cases z <;> first | (cases q; done) | cases this
theorem par_sw2 {env : PySem.Env} {x y : Str} {px py pt pt2 : Pos} {kt k2 : Nat} {vs : List Expr} (hk : env.scope.kind = .function) (hv : vs.length = 2) (hxy : x ≠ y) (hx : env.scope.names.lookup x = some .local) (hy : env.scope.names.lookup y = some .local) (hl : py.line = px.line)
    (hs : vs.all noStar = true) (h1 : vs.all (foldedForSure 8) = false) (h2 : vs.all (constantsAlone 8) = false) : swappedStores [.Tuple [.Name x px, .Name y py] kt pt] (.Tuple vs k2 pt2) env = pure (some [x, y]) := by
  have hb := blockF hk
  have e1 : env.kindOf x = some .local := hx
  have e2 : env.kindOf y = some .local := hy
  have q1 : (y == x) = false := beq_eq_false_iff_ne.mpr (Ne.symm hxy)
  unfold swappedStores
  simp [hv, hb, e1, e2, hl, h1, h2, Expr.pos, List.eraseDups, List.eraseDupsBy, List.eraseDupsBy.loop]
  split
  · rename_i h
    exact absurd h (no_star hs)
  · simp [q1]
theorem par_sw3 {env : PySem.Env} {x y z : Str} {px py pz pt pt2 : Pos} {kt k2 : Nat} {vs : List Expr} (hk : env.scope.kind = .function) (hv : vs.length = 3) (hxy : x ≠ y) (hxz : x ≠ z) (hyz : y ≠ z) (hx : env.scope.names.lookup x = some .local) (hy : env.scope.names.lookup y = some .local) (hz : env.scope.names.lookup z = some .local)
    (hl : py.line = px.line) (hl2 : pz.line = px.line) (hs : vs.all noStar = true) (h1 : vs.all (foldedForSure 8) = false) (h2 : vs.all (constantsAlone 8) = false) : swappedStores [.Tuple [.Name x px, .Name y py, .Name z pz] kt pt] (.Tuple vs k2 pt2) env = pure (some [x, y, z]) := by
  have hb := blockF hk
  have e1 : env.kindOf x = some .local := hx
  have e2 : env.kindOf y = some .local := hy
  have e3 : env.kindOf z = some .local := hz
  have q1 : (y == x) = false := beq_eq_false_iff_ne.mpr (Ne.symm hxy)
  have q2 : (z == x) = false := beq_eq_false_iff_ne.mpr (Ne.symm hxz)
  have q3 : (z == y) = false := beq_eq_false_iff_ne.mpr (Ne.symm hyz)
  unfold swappedStores
  simp [hv, hb, e1, e2, e3, hl, hl2, h1, h2, Expr.pos, List.eraseDups, List.eraseDupsBy, List.eraseDupsBy.loop]
  split
  · rename_i h
    exact absurd h (no_star hs)
  · simp [q1, q2, q3]
theorem sole_no {v t : Expr} {l : Nat} {env : PySem.Env} (h : notComp v = true) : swapsWithSole [t] v l env = pure false := by
  show swapsWith v (some t) l env = pure false
  exact swaps_no h
theorem asg_plain {o k : Expr} {p : Pos} {env : PySem.Env} (h : notSlice k = true) (v : Value) : assign (.Subscript o k p) env v = (do
      let ov ← holding [v] (eval o env)
      let iv ← holding [v, ov] (eval k env)
      standAt p
      holding [v, ov, iv] (setItem ov iv v)
      release [v, ov, iv] []) := by
  cases k <;> first | rfl | cases h
section
variable {T : Tb} {G : List PV} {C : Ora} {N : List Str} {w : Nat}
theorem okSet {x : Nat} {y : Str} {np pos : Pos} {e : Ex} {e' : Expr} {sc : Scope} {fc : Str → Bool} {X : Cx} (c : Bk T G C N sc fc X) (h1 : N[x]? = some y) (h2 : locB sc y = true) (h3 : sc.names.lookup y = some .local ∨ fc y = true) (h4 : notComp e' = true ∨ isLC e = true) (h5 : chkE T N sc e e' = true) :
    SS X Wc (hSet x (ev G C e)) (.Assign [.Name y np] e' pos) := by
  have hN : X.N.Nodup := by rw [c.eN]; exact c.nd
  have hi : X.N[x]? = some y := by rw [c.eN]; exact h1
  have hx : Loc X.env.scope y := by rw [c.eS]; exact loc_of h2
  have hf : X.fn y = true ∨ X.env.scope.names.lookup y = some .local := by
    rw [c.eS]
    exact h3.symm.imp (c.fn y) id
  have se := (okE e e' c h5).1
  rcases h4 with h4 | h4
  · exact ss_set hN hi hx se (swaps_no h4) hf
  · -- a comprehension
    have core : ∀ {own tg it cond elt}, chkE T N sc (.comp own tg it cond elt) e' = true → (∃ elt' tg' it' ifs scope vp, e' = .ListComp elt' [⟨tg', it', ifs, 0⟩] scope vp) := by
      intro own tg it cond elt h
      unfold chkE at h
      split at h
      · exact ⟨_, _, _, _, _, _, rfl⟩
      · cases h
    cases e <;> first | cases h4 | skip
    · rename_i own tg it cond elt
      obtain ⟨elt', tg', it', ifs, scope, vp, rfl⟩ := core h5
      cases hb : swB sc scope y np.line vp.line with
      | false => exact ss_set hN hi hx se (by rw [sw_comp (by rw [c.eS]; exact c.kind), c.eS, hb]) hf
      | true =>
        have hl : sc.names.lookup y = some .local := by
          unfold swB at hb
          rw [Bool.and_eq_true, Bool.and_eq_true] at hb
          exact of_decide_eq_true hb.1.1
        unfold chkE at h5
        simp only [Bool.and_eq_true] at h5
        obtain ⟨k1, k2, k3, k4, k5, k6, k7⟩ := h5
        have hk : scope.kind = .function := (blkOk_by k2).kind
        have es := map_snd own fun i => N.getD i Str.empty
        have ok : BlkOk X.N X.env.scope scope (own.map fun i => (N.getD i Str.empty, i)) := by
          rw [c.eN, c.eS]
          exact blkOk_by k2
        have ss := ss_setLc (X := X) (Wc := Wc) (i := x) (y := y) (py := np) (t := tg) (fI := evI G C it) (cond := evC G C cond) (elt := ev G C elt) (pos := vp) (spos := pos) c.calm hN hi (by rw [c.eS]; exact hl) (by rw [sw_comp (by rw [c.eS]; exact c.kind), c.eS, hb]) (fun i hi => by rw [es]; simpa using List.all_eq_true.mp k1 i hi) (okI it tg' it' c k4) ok
          (fun s H D cl fp => okG tg tg' (c.blk hk s H D cl fp) k5) (fun s H D cl fp => okC cond ifs (c.blk hk s H D cl fp) k6) (fun s H D cl fp => (okE elt elt' (c.blk hk s H D cl fp) k7).1) fun x => notSet_it k3 x
        rw [es] at ss
        exact ss
    · rename_i e
      cases e <;> first | cases h4 | skip
      rename_i own tg it cond elt
      unfold chkE at h5
      obtain ⟨elt', tg', it', ifs, scope, vp, rfl⟩ := core h5
      cases hb : swB sc scope y np.line vp.line with
      | false => exact ss_set hN hi hx se (by rw [sw_comp (by rw [c.eS]; exact c.kind), c.eS, hb]) hf
      | true =>
        have hl : sc.names.lookup y = some .local := by
          unfold swB at hb
          rw [Bool.and_eq_true, Bool.and_eq_true] at hb
          exact of_decide_eq_true hb.1.1
        unfold chkE at h5
        simp only [Bool.and_eq_true] at h5
        obtain ⟨k1, k2, k3, k4, k5, k6, k7⟩ := h5
        have hk : scope.kind = .function := (blkOk_by k2).kind
        have es := map_snd own fun i => N.getD i Str.empty
        have ok : BlkOk X.N X.env.scope scope (own.map fun i => (N.getD i Str.empty, i)) := by
          rw [c.eN, c.eS]
          exact blkOk_by k2
        have ss := ss_setLcM (X := X) (Wc := Wc) (i := x) (y := y) (py := np) (t := tg) (fI := evI G C it) (cond := evC G C cond) (elt := ev G C elt) (pos := vp) (spos := pos) c.calm hN hi (by rw [c.eS]; exact hl) (by rw [sw_comp (by rw [c.eS]; exact c.kind), c.eS, hb]) (fun i hi => by rw [es]; simpa using List.all_eq_true.mp k1 i hi) (okI it tg' it' c k4) ok
          (fun s H D cl fp => okG tg tg' (c.blk hk s H D cl fp) k5) (fun s H D cl fp => okC cond ifs (c.blk hk s H D cl fp) k6) (fun s H D cl fp => (okE elt elt' (c.blk hk s H D cl fp) k7).1) fun x => notSet_it k3 x
        rw [es] at ss
        exact ss
/-- a def's own block: what it may let out -/
structure Tp (T : Tb) (Wc : XW) (X : Cx) : Prop where
  stk : X.stack = X.env :: X.outer
  fr : X.env.frame = some X.env.locals
  tk : Takes X (wOf (xaOf T X.mg) Wc)
mutual
theorem okSt : ∀ (s : Stm) (s' : Stmt) {sc : Scope} {fc : Str → Bool} {X : Cx}, Bk T G C N sc fc X → Tp T Wc X → chkS T N sc fc s s' = true → SS X Wc (ex G C w s) s'
  | .expr e, s', sc, fc, X, c, tp, h => by
    unfold chkS at h
    split at h
    · rw [Bool.and_eq_true] at h
      exact ss_expr (okE e _ c h.2).1 (swaps_no h.1)
    · cases h
  | .app x e, s', sc, fc, X, c, tp, h => by
    unfold chkS at h
    split at h
    · rename_i y np m ap a cp sp
      simp only [Bool.and_eq_true] at h
      obtain ⟨h1, h2, h3, h4, h5⟩ := h
      have e1 := of_decide_eq_true h1
      subst e1
      obtain ⟨n1, n2, n3, n4⟩ := c.nm h2
      have st : starEach [a] X.env = [(false, eval a X.env)] := by rw [star_cons h4]; rfl
      exact ss_app (es := []) n1 n2 n3 n4 (okE e _ c h5).1 (base_ok rfl) (by rw [st]; rfl) h3 st rfl
    · cases h
  | .appx o e, s', sc, fc, X, c, tp, h => by
    unfold chkS at h
    split at h
    · rename_i o' m ap a cp sp
      simp only [Bool.and_eq_true] at h
      obtain ⟨h1, h2, h2', h3, h4, h5⟩ := h
      have e1 := of_decide_eq_true h1
      subst e1
      have st : starEach [a] X.env = [(false, eval a X.env)] := by rw [star_cons h4]; rfl
      exact ss_appx (es := []) (okE o _ c h2').1 (okE e _ c h5).1 (base_ok h2) (by rw [st]; rfl) h3 st rfl
    · cases h
  | .ext x e, s', sc, fc, X, c, tp, h => by
    unfold chkS at h
    split at h
    · rename_i y np m ap a cp sp
      simp only [Bool.and_eq_true] at h
      obtain ⟨h1, h2, h3, h4, h5⟩ := h
      have e1 := of_decide_eq_true h1
      subst e1
      obtain ⟨n1, n2, n3, n4⟩ := c.nm h2
      have st : starEach [a] X.env = [(false, eval a X.env)] := by rw [star_cons h4]; rfl
      exact ss_ext (es := []) n1 n2 n3 n4 (okE e _ c h5).1 (base_ok rfl) (by rw [st]; rfl) h3 st rfl
    · cases h
  | .set x e, s', sc, fc, X, c, tp, h => by
    unfold chkS at h
    split at h
    · rename_i y np e' sp
      simp only [Bool.and_eq_true, Bool.or_eq_true] at h
      obtain ⟨h1, h2, h3, h4, h5⟩ := h
      exact okSet c (of_decide_eq_true h1) h2 (h3.imp of_decide_eq_true id) h4 h5
    · cases h
  | .tset t e, s', sc, fc, X, c, tp, h => by
    unfold chkS at h
    split at h
    · simp only [Bool.and_eq_true] at h
      obtain ⟨h1, h2, h3, h4, h5⟩ := h
      refine ss_tset (okE e _ c h5).1 (okG t _ c h4) (swaps_no h1) ?_ (by rw [asg_cons h3]; rfl)
      rcases Bool.or_eq_true_iff.mp h2 with h2 | h2
      · exact swC_ok h2
      · exact swL_ok (by rw [c.eS]; exact h2)
    · cases h
  | .par xs es, s', sc, fc, X, c, tp, h => by
    unfold chkS at h
    split at h
    · rename_i ts k1 p1 vs k2 p2 sp
      have hk : X.env.scope.kind = .function := by rw [c.eS]; exact c.kind
      have hN : X.N.Nodup := by rw [c.eN]; exact c.nd
      split at h
      · rename_i i j x px y py
        simp only [Bool.and_eq_true, Bool.not_eq_true', decide_eq_true_eq, decide_eq_false_iff_not] at h
        obtain ⟨h1, h2, h3, h4, h5, h6, h7, h8, h9, h10, h11⟩ := h
        obtain ⟨l1, _⟩ := line_of h6
        obtain ⟨l2, l3⟩ := line_of h7
        have sw := par_sw2 (env := X.env) (px := px) (py := py) (pt := p1) (pt2 := p2) (kt := k1) (k2 := k2) hk h1 h5 (by rw [c.eS]; exact l1) (by rw [c.eS]; exact l2) l3 h8 h9 h10
        match vs, h1, h8, h11, sw with
        | [a, b], _, h8, h11, sw =>
          exact ss_par c.calm hN (by rw [c.eN]; exact h2) (by rw [c.eN]; exact h3) h4 (by rw [c.eS]; exact l1) (by rw [c.eS]; exact l2) (okL es _ c h8 h11) sw (sole_no rfl)
      · rename_i i j l x px y py z pz
        simp only [Bool.and_eq_true, Bool.not_eq_true', decide_eq_true_eq, decide_eq_false_iff_not] at h
        obtain ⟨h1, h2, h3, h3', h4, h4', h4'', h5, h5', h5'', h6, h7, h7', h8, h9, h10, h11⟩ := h
        obtain ⟨l1, _⟩ := line_of h6
        obtain ⟨l2, l3⟩ := line_of h7
        obtain ⟨l4, l5⟩ := line_of h7'
        have sw := par_sw3 (env := X.env) (px := px) (py := py) (pz := pz) (pt := p1) (pt2 := p2) (kt := k1) (k2 := k2) hk h1 h5 h5' h5'' (by rw [c.eS]; exact l1) (by rw [c.eS]; exact l2) (by rw [c.eS]; exact l4) l3 l5 h8 h9 h10
        match vs, h1, h8, h11, sw with
        | [a, b, d], _, h8, h11, sw =>
          exact ss_par3 c.calm hN (by rw [c.eN]; exact h2) (by rw [c.eN]; exact h3) (by rw [c.eN]; exact h3') h4 h4' h4'' (by rw [c.eS]; exact l1) (by rw [c.eS]; exact l2) (by rw [c.eS]; exact l4) (okL es _ c h8 h11) sw (sole_no rfl)
      · cases h
    · cases h
  | .aug x op e, s', sc, fc, X, c, tp, h => by
    unfold chkS at h
    split at h
    · rename_i y np o e' sp
      simp only [Bool.and_eq_true, Bool.or_eq_true] at h
      obtain ⟨h1, h2, h3, h4, h5⟩ := h
      have e1 := of_decide_eq_true h1
      subst e1
      refine ss_aug (by rw [c.eN]; exact c.nd) (by rw [c.eN]; exact of_decide_eq_true h2) (by rw [c.eS]; exact loc_of h3) (okE e _ c h5).1 ?_
      rw [c.eS]
      exact (h4.imp of_decide_eq_true (c.fn y)).symm
    · cases h
  | .augi x i op e, s', sc, fc, X, c, tp, h => by
    unfold chkS at h
    split at h
    · rename_i y np k tp o e' sp
      simp only [Bool.and_eq_true] at h
      obtain ⟨h1, h2, h3, h4, h5⟩ := h
      have e1 := of_decide_eq_true h1
      subst e1
      obtain ⟨n1, n2, n3, n4⟩ := c.nm h2
      exact ss_augi c.hu n1 n2 n3 n4 (okE e _ c h5).1 (okE i _ c h4).1 (aug_plain h3)
    · cases h
  | .seti x i e, s', sc, fc, X, c, tp, h => by
    unfold chkS at h
    split at h
    · rename_i y np k tp e' sp
      simp only [Bool.and_eq_true] at h
      obtain ⟨h1, h2, h3, h4, h5⟩ := h
      obtain ⟨n1, n2, n3, n4⟩ := c.nm h1
      exact ss_seti c.hu n1 n2 n3 n4 (okE e _ c h4).1 (okE i _ c h3).1 (asg_plain h5) (sole_no h2) (swC_ok rfl) rfl
    · cases h
  | .ret e, s', sc, fc, X, c, tp, h => by
    unfold chkS at h
    split at h
    · exact ss_ret (okE e _ c h).1
    · cases h
  | .retN, s', sc, fc, X, c, tp, h => by
    unfold chkS at h
    split at h
    · exact ss_retN
    · cases h
  | .ife d a b, s', sc, fc, X, c, tp, h => by
    unfold chkS at h
    split at h
    · simp only [Bool.and_eq_true] at h
      obtain ⟨h1, h2, h3, h4⟩ := h
      exact ss_ife ((okE d _ c h2).2 h1) (okSs a _ c tp h3) (okSs b _ c tp h4)
    · cases h
  | .forr t it body, s', sc, fc, X, c, tp, h => by
    unfold chkS at h
    split at h
    · simp only [Bool.and_eq_true] at h
      obtain ⟨h1, h2, h3, h4⟩ := h
      exact ss_for c.pass c.calm (okI it _ _ c h2) (okG t _ c h3) (okSs body _ c tp h4) (notSet_it h1)
    · cases h
  | .whil d body, s', sc, fc, X, c, tp, h => by
    unfold chkS at h
    split at h
    · simp only [Bool.and_eq_true] at h
      obtain ⟨h1, h2, h3⟩ := h
      exact ss_while c.pass ((okE d _ c h2).2 h1) (okSs body _ c tp h3)
    · cases h
  | .brk, s', sc, fc, X, c, tp, h => by
    unfold chkS at h
    split at h
    · exact ss_brk
    · cases h
  | .cont, s', sc, fc, X, c, tp, h => by
    unfold chkS at h
    split at h
    · exact ss_cont
    · cases h
  | .pass, s', sc, fc, X, c, tp, h => by
    unfold chkS at h
    split at h
    · exact ss_pass
    · cases h
  | .never, s', sc, fc, X, c, tp, h => ss_never
  | .rais k, s', sc, fc, X, c, tp, h => by
    unfold chkS at h
    split at h
    · simp only [Bool.and_eq_true] at h
      obtain ⟨h1, h2, h3⟩ := h
      obtain ⟨a, g1, g2⟩ := c.exc k _ (of_decide_eq_true h1)
      exact ss_rais c.calm tp.tk g2 g1 ⟨_, of_decide_eq_true h1, g1⟩ (c.gl h2) (dbg_of h3).1
    · cases h
  | .tryc f es k a, s', sc, fc, X, c, tp, h => by
    unfold chkS at h
    split at h
    · simp only [Bool.and_eq_true] at h
      obtain ⟨h1, h2, h3, h4, h5, h6, h7, h8, h9⟩ := h
      obtain ⟨b, g1, g2⟩ := c.exc k _ (of_decide_eq_true h6)
      obtain ⟨n, fa, fd, ps, F, hr, hm, hk, hb, _⟩ := c.fns f _ es.length (of_decide_eq_true h1)
      have h4' := h4
      rw [List.all_cons, Bool.and_eq_true] at h4
      refine ss_tryc tp.stk tp.fr tp.tk c.calm F hr (c.gl h2) hm hk hb (fun pn xe pw => okL es _ (c.tr pn xe pw) h4' h5) (fun E S vs S' e => evs_len es e) (dbg_of h3).1 h4.1 h4.2 g2 g1 ⟨_, of_decide_eq_true h6, g1⟩ (fun b' hb' => ?_) (c.gl h7) (dbg_of h8).1 h9 (swaps_no rfl)
      obtain ⟨x', e1, e2⟩ := hb'
      rw [of_decide_eq_true h6] at e1
      cases e1
      rw [g1] at e2
      cases e2
      rfl
    · cases h
theorem okSs : ∀ (ss : List Stm) (ss' : List Stmt) {sc : Scope} {fc : Str → Bool} {X : Cx}, Bk T G C N sc fc X → Tp T Wc X → chkSs T N sc fc ss ss' = true → SSs X Wc (exs G C w ss) ss'
  | [], ss', sc, fc, X, c, tp, h => by
    unfold chkSs at h
    rw [List.isEmpty_iff] at h
    subst h
    exact sss_nil
  | s :: ss, ss', sc, fc, X, c, tp, h => by
    unfold chkSs at h
    split at h
    · rw [Bool.and_eq_true] at h
      exact sss_cons (okSt s _ c tp h.1) (okSs ss _ c tp h.2)
    · cases h
end
end
end Py

set_option Elab.async false
set_option linter.all false
set_option maxRecDepth 100000
set_option maxHeartbeats 4000000
/-! a def that calls the def it is handed, and hears whether it raises -/
namespace Py
open PySem PySem.Spec PyProof.Rows L2
section
variable {X : Cx} {CX : CXT} {k i : Nat} {f : Addr} {fd : FuncData} {ps : List Str} {sp : Sp} {E : L2.St → XK} {x : Str} {p pos : Pos} {e : Expr} {es : List Expr} {t : TA}
/-- own(..), own a local that holds a def; it may raise -/
def tCallLS (i : Nat) (f : Addr) (sp : Sp) (E : L2.St → XK) (t : TA) : TE := fun σ H Q => σ[i]? = some (some (.ref f)) ∧ t σ H fun vs H1 => sp vs H1 Q (E σ)
theorem pe_callLS (F : FnOk X.prog X.w X.K X.mg X.base CX k f fd ps sp) (hr : Room k X.A) (hN : X.N[i]? = some x) (hv : Vis X.env.scope x) (hk : PySem.W.keepIn X.K (.ref f) = true) (hb : Binds X.K fd ps []) (hx : ∀ σ, PassesAt CX X σ (E σ)) (ha : PA X (e :: es) t)
    (hdb : (x == ("__debug__" : Str)) = false) (hcd : (x == ("__classdict__" : Str)) = false)
    (he : starEach (e :: es) X.env = (false, eval e X.env) :: starEach es X.env) (hpl : (backTo pos (starEach es X.env)).any (·.1) = false) : PE X (.Call (.Name x p) (e :: es) [] pos) (tCallLS i f sp E t) := by
  refine ⟨fun pins s σ H Q I h => ?_⟩
  obtain ⟨hs, ht⟩ := h
  refine wpAny_Call_Name_kw (thn ((pe_var (pos := p) hN hv hdb hcd).run pins s σ H (fun v H1 => v = .ref f ∧ H1 = H) I ⟨.ref f, hs, rfl, rfl⟩) fun u s1 ⟨v, H1, I1, r1, q1⟩ => ?_)
  obtain ⟨rfl, rfl⟩ := q1
  cases r1
  refine PySem.W.callWith_K (h₀ := X.base) I.ok.mod.kin hk (thn (ha.run pos pins s1 σ _ _ I1 ht) fun us s2 ⟨vs, H2, I2, r, q⟩ => ⟨I2.kIn, ?_⟩) he hpl
  exact run_fnS F hr hb (hx σ) I2 r q
end
/-- the names of such a def -/
def hNs : List Str := ["own", "one", "two", "told_so", "caught", "slip_so"]
/-- what is known of the class that it hears -/
structure HC (K : Fg) (C : Addr) : Prop where
  q : ExcC K C
  is : L2.ExcC K C
  vt : PySem.W.kitOne K (.ref C) (.type "ValueError") = some true
/-- what it does, as the evaluator says of own, the def at f: C its level's calls -/
def hearT (K : Fg) (C : Addr) (z : Str) (f : Addr) (sp : Sp) : TS :=
  tSeq (tAsg (tTup (tCons (tC .non) (tCons (tC .non) tNil))) (L2.gTup K 2 (L2.gCons (gName 3) (L2.gCons (gName 4) L2.gNil)))) (tSeq
    (fun D σ H => tSeq (tAsg (tCallLS 0 f sp (WE (wAs K (.ref C) 5 (fun a cls d => fun D σ H => (cls = .ref C ∧ d = none) ∧ tSeq (tAsg (tLst (tCons (tC (.str z)) (tCons (tCB (rIsE K C a) (tCons (tVar 5) (tCons (tC (.ty "ValueError")) tNil))) tNil))) (gName 4)) tNext D σ H) (fun _ _ _ _ => False) D)) (tCons (tVar 1) (tCons (tVar 2) tNil))) (gName 3)) tNext D σ H)
    (tSeq (tRet (tIf (tTest (tOp (fun x y H Q => y = .non ∧ Q (.bl (decide (x = .non))) H) (tVar 4) (tC .non))) (tVar 3) (tVar 4))) tNext))
section
variable {X : Cx} {f C : Addr} {n k : Nat} {fd : FuncData} {ps : List Str} {sp : Sp} {z : Str}
theorem pss_hear {p1 p2 p3 p4 p5 p6 p7 p8 p9 p10 p11 p12 p13 p14 p15 p16 p17 p18 p19 p20 p21 p22 p23 p24 p25 p26 p27 p28 p29 p30 p31 : Pos} {k1 k2 k3 k4 k5 k6 : Nat}
    (F : FnOk X.prog X.w X.K X.mg X.base (L2.CX X.prog X.w) n f fd ps sp) (hr : Room n X.A) (hk : PySem.W.keepIn X.K (.ref f) = true) (hb : Binds X.K fd ps []) (hc : X.calm = true)
    (hs : X.stack = X.env :: X.outer) (hf : X.env.frame = some X.env.locals) (tk : Takes X fun _ _ _ _ => False) (h : HC X.K C) (gC : X.mg "CanNot" = some (.ref C)) (f1 : X.mg "isinstance" = none) (f2 : X.mg "ValueError" = none)
    (hN : X.N = hNs) (hl : ∀ x ∈ hNs, X.env.scope.names.lookup x = some .local) (hg : ∀ x ∈ (["CanNot", "isinstance", "ValueError"] : List Str), Gl X x) (hkind : X.env.scope.kind = .function) (hfn : ∀ x, X.fn x = true) :
    PSs X [.Assign [.Tuple [.Name "told_so" p1, .Name "caught" p2] k1 p3] (.Tuple [.Constant .none k2 p4, .Constant .none k3 p5] k4 p6) p7,
      .Try [.Assign [.Name "told_so" p8] (.Call (.Name "own" p9) [.Name "one" p10, .Name "two" p11] [] p12) p13] [.ExceptHandler (some (.Name "CanNot" p14)) (some "slip_so") [.Assign [.Name "caught" p15] (.List [.Constant (.str z) k5 p16, .Call (.Name "isinstance" p17) [.Name "slip_so" p18, .Name "ValueError" p19] [] p20] p21) p22] p23] [] [] p24,
      .Return (some (.IfExp (.Compare (.Name "caught" p25) [.Is] [.Constant .none k6 p26] p27) (.Name "told_so" p28) (.Name "caught" p29) p30)) p31] (hearT X.K C z f sp) := by
  have hnd : X.N.Nodup := by rw [hN]; decide
  have g : ∀ (i : Nat) (x : Str), hNs[i]? = some x → X.N[i]? = some x := fun i x e => by rw [hN]; exact e
  have loc : ∀ x ∈ hNs, Loc X.env.scope x := fun x hx => .inl (hl x hx)
  have vis : ∀ x ∈ hNs, Vis X.env.scope x := fun x hx => .inl (hl x hx)
  refine pss_cons (ps_asg (pe_tup (pa_cons pe_non (pa_cons pe_non pa_nil))) (pg_tup hc (pgs_cons (pg_name hnd (g 3 "told_so" rfl) (loc _ (by decide)) (.inl (hfn _))) (pgs_cons (pg_name hnd (g 4 "caught" rfl) (loc _ (by decide)) (.inl (hfn _))) pgs_nil)) rfl rfl) (sole_no rfl) (swC_ok rfl) rfl) (pss_cons ?_ (pss_cons (ps_ret (pe_ifExp (pt_cmpR op_isN (pe_var (g 4 "caught" rfl) (vis _ (by decide))) pe_non rfl) (pe_var (g 3 "told_so" rfl) (vis _ (by decide))) (pe_var (g 4 "caught" rfl) (vis _ (by decide))))) pss_nil))
  refine ps_try_as (c := .ref C) (tb := fun W => tSeq (tAsg (tCallLS 0 f sp (WE W) (tCons (tVar 1) (tCons (tVar 2) tNil))) (gName 3)) tNext) hs hf hnd (g 5 "slip_so" rfl) (hl _ (by decide)) ⟨hg _ (by decide), by decide, .inl gC⟩ tk (fun W pn xe tkW pw => ?_) fun a oe cls d pn hz hd => ?_
  · exact pss_cons (ps_set hnd (g 3 "told_so" rfl) (loc _ (by decide)) (pe_callLS (X := X.tr pn xe) F hr (g 0 "own" rfl) (vis _ (by decide)) hk hb (fun σ => passAt tkW σ) (pa_cons (pe_var (g 1 "one" rfl) (vis _ (by decide))) (pa_cons (pe_var (g 2 "two" rfl) (vis _ (by decide))) pa_nil)) (by decide) (by decide) rfl rfl) rfl (.inl (hfn _))) pss_nil
  · refine ⟨fun pins s σ H D I ⟨⟨e1, e2⟩, q⟩ => ?_⟩
    subst e1 e2
    have b1 : bootBuiltins "isinstance" = some (.builtin "isinstance") := by decide +kernel
    refine (pss_cons (ps_set (X := X.suite a ((a, oe) :: pn)) hnd (g 4 "caught" rfl) (loc _ (by decide)) (pe_lst (pa_cons pe_str (pa_cons (pe_callB (call_isE (X := X) (a := a) h.is hz hd) (hg "isinstance" (by decide)) f1 b1 (pa_cons (pe_var (g 5 "slip_so" rfl) (vis _ (by decide))) (pa_cons (pe_bltn (hg "ValueError" (by decide)) f2 (u := .type "ValueError") (v := .ty "ValueError") (by decide +kernel) rfl) pa_nil))) pa_nil))) rfl (.inl (hfn _))) pss_nil).run pins s σ H D I q
end
/-- .. keeps the promise of the level -/
theorem hear_sp {K : Fg} {Co Co' : Ora} {i : Nat} {C f : Addr} {xa : Nat → Addr → Prop} {us : List V} {H : Hp} {Q : VK} {E : XK} (h : HC K C) (hu : ∀ a, xa 0 a → a = C) (hC : ∀ xs S, Co' (i + far2) xs S = runH Co i xs S) (hsp : spO K Co' (i + far2) 2 us H Q E) :
    hearT K C ⟨[99, 97, 110, 32, 110, 111, 116].toArray⟩ f (spB K Co xa i 2) { nx := fun _ H' => Q .non H', rt := Q } (L2.start hNs (.ref f :: us)) H := by
  obtain ⟨hl, ρ, S, xs, rv, S', hs, vx, hc, kk⟩ := hsp
  rw [hC] at hc
  match us, hl, vx with
  | [u, v], _, vx =>
  refine ⟨by rw [sizeLine_eq]; decide, fun p hp => ⟨p, [.non, .non], rfl, SqT.of upd_same, rfl, .non, [.non], rfl, .non, [], rfl, rfl, ?_⟩⟩
  have sm : Same H (upd H p (.tup [.non, .non])) := same_new hp
  have s1 := hs.same sm
  have l1 : Le ρ S H ρ S (upd H p (.tup [.non, .non])) := .same sm
  have v1 := moves hs l1 vx
  refine ⟨rfl, u, rfl, v, rfl, ?_⟩
  unfold runH at hc
  split at hc
  · rename_i x S1 e
    cases hc
    refine .inl ⟨rfl, ρ, S, xs, .v x, S', s1, v1, e, fun ρ' v' H' l s ve nw => ?_⟩
    refine ⟨.non, rfl, rfl, true, by rw [decide_eq_true rfl], ?_⟩
    exact ⟨v', rfl, kk ρ' v' H' (l1.trans l) s ve trivial⟩
  · cases hc
  · rename_i e
    split at hc
    · rename_i k S1 e2
      split at hc
      · rename_i k0
        subst k0
        cases hc
        refine .inr ⟨rfl, ρ, S, xs, 0, S', s1, v1, e2, fun ρ' H' l s a ha => ?_⟩
        cases hu a ha
        refine ⟨true, h.q.me, fun _ a' ha' => ?_, fun z => nomatch z⟩
        refine ⟨⟨rfl, rfl⟩, ?_⟩
        refine ⟨.ref a', rfl, .ty "ValueError", .type "ValueError", true, rfl, fun u r => r, h.vt, by rw [sizeLine_eq]; decide, fun p2 hp2 => ?_⟩
        refine ⟨.ref p2, rfl, rfl, false, by rw [decide_eq_false (fun z => nomatch z)], ?_⟩
        refine ⟨.ref p2, rfl, ?_⟩
        exact ZR.lst s.mutOk (.cons (.str _ ⟨by decide, by decide⟩) (.cons (.bl true) .nil)) (zr_of s (l1.trans l) kk) p2 hp2
      · cases hc
    · cases hc
end Py

set_option Elab.async false
set_option linter.all false
set_option maxRecDepth 100000
set_option maxHeartbeats 4000000
namespace Py
open PySem PySem.Spec PyProof.Rows L2
/-! ### the module's defs -/
structure Dfn where
  name : Str
  own : Str
  qual : Str
  params : Arguments
  ps : List Str
  N : List Str
  body : List Stmt
  scope : Scope
  fn : Fn
def chkD (T : Tb) (d : Dfn) : Bool := (match d.scope.kind with | .function => true | _ => false) && (!d.scope.isCoroutine && (!d.scope.isGenerator && (decide d.N.Nodup && (decide (d.N.take d.ps.length = d.ps) && (d.ps.all (locB d.scope) && (d.scope.names.all (fun y => !decide (y.2 = .free)) &&
  (decide (d.fn.np = d.ps.length) && (decide (d.fn.nn = d.N.length) && chkSs T d.N d.scope (fun _ => true) d.fn.body d.body))))))))
/-- a def that calls the def it is handed, as the text has it -/
structure HearD (d : Dfn) : Prop where
  ps : d.ps = (["own", "one", "two"] : List Str)
  sc : FnScope hNs d.ps d.scope
  nm : ∀ x ∈ hNs, d.scope.names.lookup x = some .local
  gl : ∀ x ∈ (["CanNot", "isinstance", "ValueError"] : List Str), d.scope.names.lookup x = some .globalImplicit
  body : ∃ (p1 p2 p3 p4 p5 p6 p7 p8 p9 p10 p11 p12 p13 p14 p15 p16 p17 p18 p19 p20 p21 p22 p23 p24 p25 p26 p27 p28 p29 p30 p31 : Pos) (k1 k2 k3 k4 k5 k6 : Nat), d.body = [.Assign [.Tuple [.Name "told_so" p1, .Name "caught" p2] k1 p3] (.Tuple [.Constant .none k2 p4, .Constant .none k3 p5] k4 p6) p7,
      .Try [.Assign [.Name "told_so" p8] (.Call (.Name "own" p9) [.Name "one" p10, .Name "two" p11] [] p12) p13] [.ExceptHandler (some (.Name "CanNot" p14)) (some "slip_so") [.Assign [.Name "caught" p15] (.List [.Constant (.str ⟨[99, 97, 110, 32, 110, 111, 116].toArray⟩) k5 p16, .Call (.Name "isinstance" p17) [.Name "slip_so" p18, .Name "ValueError" p19] [] p20] p21) p22] p23] [] [] p24,
      .Return (some (.IfExp (.Compare (.Name "caught" p25) [.Is] [.Constant .none k6 p26] p27) (.Name "told_so" p28) (.Name "caught" p29) p30)) p31]
structure Mo (T : Tb) (D : List Dfn) (G : List PV) (P : Program) (w : World) (K : Fg) (mg : Str → Option Value) : Prop where
  funs : ∀ (i : Nat) (d : Dfn), D[i]? = some d → ∃ f fd, FunD K d.own d.qual d.params d.body d.scope [] [] f fd ∧ mg d.name = some (.ref f) ∧ Binds K fd d.ps [] ∧ ∀ ks js, (i, ks, js) ∈ T.kws → KBn K fd d.ps 0 ks (fun _ ws => js.filterMap (ws[·]?)) (fun _ zs => js.filterMap (zs[·]?))
  glo : ∀ (i : Nat) (x : Str) (y : PV), T.glo[i]? = some x → G[i]? = some y → isCon y = false → ∃ u v, mg x = some u ∧ RelV v u ∧ ∀ M H, VR K M H y v
  dic : ∀ (i : Nat) (x : Str) (t : Bool) (ks vs : List PV), T.glo[i]? = some x → G[i]? = some (.dic t ks vs) → ∃ p, mg x = some (.ref p) ∧ (p == sysModules) = false ∧ ∀ z y, dget ks vs (.str z) = some y → ∃ v, KDct K w p ⟨z.toArray⟩ v ∧ ∀ M H, VR K M H y v
  free : ∀ x ∈ T.free, mg x = none
  exc : ∀ (c : Nat) (x : Str), T.exc[c]? = some x → ∃ a, mg x = some (.ref a) ∧ ExcC K a
  hrd : ∀ (x : Str), T.hrd = some x → ∃ d f fd C, FunD K d.own d.qual d.params d.body d.scope [] [] f fd ∧ mg x = some (.ref f) ∧ Binds K fd d.ps [] ∧ HearD d ∧ HC K C ∧ mg "CanNot" = some (.ref C) ∧ T.exc[0]? = some ("CanNot" : Str) ∧ mg "isinstance" = none ∧ mg "ValueError" = none
section
variable {T : Tb} {D : List Dfn} {G : List PV} {P : Program} {w : World} {K : Fg} {mg : Str → Option Value} {base : Heap} {lim : Nat}
theorem chkD_of {d : Dfn} (h : chkD T d = true) : FnScope d.N d.ps d.scope ∧ d.fn.np = d.ps.length ∧ d.fn.nn = d.N.length ∧ chkSs T d.N d.scope (fun _ => true) d.fn.body d.body = true := by
  unfold chkD at h
  simp only [Bool.and_eq_true, Bool.not_eq_true', decide_eq_true_eq] at h
  obtain ⟨h1, h2, h3, h4, h5, h6, h7, h8, h9, h10⟩ := h
  refine ⟨⟨?_, h2, h3, h4, h5, fun x hx => ?_, fun y hy => ?_⟩, h8, h9, h10⟩
  · split at h1
    · assumption
    · cases h1
  · have := List.all_eq_true.mp h6 x hx
    rcases loc_of this with q | q
    · exact .inl q
    · exact .inr q
  · have := List.all_eq_true.mp h7 y hy
    simpa using this
/-- what every def promises at a level -/
def LvA (T : Tb) (D : List Dfn) (G : List PV) (P : Program) (w : World) (K : Fg) (mg : Str → Option Value) (base : Heap) (lim n : Nat) : Prop := ∀ (i : Nat) (d : Dfn), D[i]? = some d → ∀ f fd, FunD K d.own d.qual d.params d.body d.scope [] [] f fd →
    FnOk P w K mg base (L2.CX P w) n f fd d.ps (spB K (call G (D.map Dfn.fn) lim n) (xaOf T mg) i d.fn.np)
def LvH (T : Tb) (D : List Dfn) (G : List PV) (P : Program) (w : World) (K : Fg) (mg : Str → Option Value) (base : Heap) (lim n : Nat) : Prop := ∀ (x : Str), T.hrd = some x → ∀ (i : Nat) (y : Str), T.fns[i]? = some (y, 2) → ∃ fa fd ps fb, FnOk P w K mg base (L2.CX P w) n fa fd ps (spH K (call G (D.map Dfn.fn) lim n) i fb) ∧ mg x = some (.ref fa) ∧ PySem.W.keepIn K (.ref fa) = true ∧ Binds K fd ps [] ∧ mg y = some (.ref fb)
theorem lvH (hT : T.fns = D.map fun d => (d.name, d.fn.np)) (hfar : D.length ≤ far) (m : Mo T D G P w K mg) (n : Nat) (hA : ∀ k, n = k + 1 → LvA T D G P w K mg base lim k) : LvH T D G P w K mg base lim n := by
  intro x hx i y hy
  obtain ⟨d, f, fd, C, F, hm, hb, hd, hc, gC, e0, f1, f2⟩ := m.hrd x hx
  rw [hT, List.getElem?_map] at hy
  cases q : D[i]? with
  | none => rw [q] at hy; cases hy
  | some d' =>
    rw [q] at hy
    simp only [Option.map_some, Option.some.injEq, Prod.mk.injEq] at hy
    obtain ⟨ey, en⟩ := hy
    obtain ⟨f', fd', F', hm', hb', _⟩ := m.funs i d' q
    rw [ey] at hm'
    refine ⟨f, fd, d.ps, f', ?_, hm, F.kp, hb, hm'⟩
    have hlen : ∀ vs H Q E, spH K (call G (D.map Dfn.fn) lim n) i f' vs H Q E → vs.length = d.ps.length := fun vs H Q E ⟨us, e, z⟩ => by
      rw [e, hd.ps, List.length_cons, z.1]
      rfl
    cases n with
    | zero =>
      refine ⟨hlen, fun A outer s H args us vs Q E hr he hb hv hs => ?_⟩
      obtain ⟨us', _, _, ρ, S, xs, rv, S', _, _, q, _⟩ := hs
      cases q
    | succ n =>
      obtain ⟨p1, p2, p3, p4, p5, p6, p7, p8, p9, p10, p11, p12, p13, p14, p15, p16, p17, p18, p19, p20, p21, p22, p23, p24, p25, p26, p27, p28, p29, p30, p31, k1, k2, k3, k4, k5, k6, hbody⟩ := hd.body
      refine F.ok hd.sc hlen fun cdv A outer s H vs Q E hr hsp => ?_
      obtain ⟨us, rfl, hsp⟩ := hsp
      have F2 := hA n rfl i d' q f' fd' F'
      rw [en] at F2
      refine ⟨hearT K C ⟨[99, 97, 110, 32, 110, 111, 116].toArray⟩ f' (spB K (call G (D.map Dfn.fn) lim n) (xaOf T mg) i 2), PSs.nox ?_, hear_sp hc (fun a ha => ?_) (fun xs S => call_heard (by rw [List.length_map]; exact hfar)) hsp⟩
      · rw [hbody]
        exact pss_hear (X := (cxOf (L2.CX P w) P w K mg base hNs d.qual d.scope f cdv A outer s H E).nox) F2 hr F'.kp hb' rfl rfl rfl (fun u s' ⟨a, B, sI, pins, σ, H, cls, d, e, I, nb, up, sky, na, os, ag, w⟩ => w.elim) hc gC f1 f2 rfl hd.nm hd.gl hd.sc.kind fun _ => rfl
      · obtain ⟨x', e1, e2⟩ := ha
        rw [e0] at e1
        cases e1
        rw [gC] at e2
        cases e2
        rfl
/-- every def keeps its promise at every level -/
theorem lvl0 (hD : D.all (chkD T) = true) : LvA T D G P w K mg base lim 0 := by
    intro i d hd f fd F
    have hk := List.all_eq_true.mp hD d (List.mem_of_getElem? hd)
    obtain ⟨_, h1, _⟩ := chkD_of hk
    refine ⟨fun vs H Q E h => (h.elim (·.1) (·.1)).trans h1, fun A outer s H args us vs Q E hr he hb hv hs => ?_⟩
    rcases hs with hs | hs
    · obtain ⟨_, ρ, S, xs, rv, S', _, _, q, _⟩ := hs
      cases q
    · obtain ⟨_, ρ, S, xs, rv, S', _, _, q, _⟩ := hs
      cases q
theorem lvlS (hT : T.fns = D.map fun d => (d.name, d.fn.np)) (hfar : D.length ≤ far) (hD : D.all (chkD T) = true) (m : Mo T D G P w K mg) (n : Nat) (hA : LvA T D G P w K mg base lim n) (hH : LvH T D G P w K mg base lim n) : LvA T D G P w K mg base lim (n + 1) := by
    intro i d hd f fd F
    have hk := List.all_eq_true.mp hD d (List.mem_of_getElem? hd)
    obtain ⟨S, h1, h2, h3⟩ := chkD_of hk
    refine F.ok S (fun vs H Q E h => (h.elim (·.1) (·.1)).trans h1) fun cdv A outer s H vs Q E hr hsp => ?_
    have bk : ∀ X : Cx, X = cxOf (L2.CX P w) P w K mg base d.N d.qual d.scope f cdv A outer s H E ∨ X = (cxOf (L2.CX P w) P w K mg base d.N d.qual d.scope f cdv A outer s H E).nox → Bk T G (call G (D.map Dfn.fn) lim n) d.N d.scope (fun _ => true) X := fun X hX => by
      have e1 : ∀ (j : Nat) (x : Str) (np : Nat), T.fns[j]? = some (x, np) → ∃ k f' fd' ps', FnOk P w K mg base (L2.CX P w) k f' fd' ps' (spB K (call G (D.map Dfn.fn) lim n) (xaOf T mg) j np) ∧ Room k (A.deeper (envOfC d.qual d.scope s.heap.objs.size f cdv)) ∧ mg x = some (.ref f') ∧ PySem.W.keepIn K (.ref f') = true ∧ Binds K fd' ps' [] ∧
          ∀ ks js, (j, ks, js) ∈ T.kws → KBn K fd' ps' 0 ks (fun _ ws => js.filterMap (ws[·]?)) (fun _ zs => js.filterMap (zs[·]?)) := fun j x np hj => by
        rw [hT, List.getElem?_map] at hj
        cases q : D[j]? with
        | none => rw [q] at hj; cases hj
        | some d' =>
          rw [q] at hj
          cases hj
          obtain ⟨f', fd', F', hm, hb, hkw⟩ := m.funs j d' q
          exact ⟨n, f', fd', d'.ps, hA j d' q f' fd' F', hr, hm, F'.kp, hb, hkw⟩
      have e2 : ∀ (j : Nat) (x : Str) (t : Bool) (ks vs : List PV), T.glo[j]? = some x → G[j]? = some (.dic t ks vs) → GDic X G j x := fun j x t ks vs hx hg => by
        obtain ⟨p, g1, g0, g2⟩ := m.dic j x t ks vs hx hg
        rcases hX with rfl | rfl
        · refine ⟨p, g1, g0, fun t' ks' vs' z y hg' hy => ?_⟩
          rw [hg] at hg'
          cases hg'
          exact g2 z y hy
        · refine ⟨p, g1, g0, fun t' ks' vs' z y hg' hy => ?_⟩
          rw [hg] at hg'
          cases hg'
          exact g2 z y hy
      have e3 : ∀ (x : Str), T.hrd = some x → ∀ (i : Nat) (y : Str), T.fns[i]? = some (y, 2) → ∃ k fa fd ps fb, FnOk P w K mg base (L2.CX P w) k fa fd ps (spH K (call G (D.map Dfn.fn) lim n) i fb) ∧ Room k (A.deeper (envOfC d.qual d.scope s.heap.objs.size f cdv)) ∧ mg x = some (.ref fa) ∧ PySem.W.keepIn K (.ref fa) = true ∧ Binds K fd ps [] ∧ mg y = some (.ref fb) := fun x hx i y hy => by
        obtain ⟨fa, fd, ps, fb, g1, g2⟩ := hH x hx i y hy
        exact ⟨n, fa, fd, ps, fb, g1, hr, g2⟩
      rcases hX with rfl | rfl
      · exact ⟨rfl, rfl, S.kind, S.nd, rfl, hr.units, passes_of rfl, fun _ _ => rfl, e1, m.glo, e2, m.free, m.exc, e3⟩
      · exact ⟨rfl, rfl, S.kind, S.nd, rfl, hr.units, PassesOwn.never, fun _ _ => rfl, e1, m.glo, e2, m.free, m.exc, e3⟩
    have hdm : (D.map Dfn.fn)[i]? = some d.fn := by rw [List.getElem?_map, hd]; rfl
    rcases hsp with hsp | hsp
    · refine ⟨tS K (fun _ _ => False) (exs G (call G (D.map Dfn.fn) lim n) lim d.fn.body), PSs.nox ?_, ?_⟩
      · exact okSs (T := T) (N := d.N) (sc := d.scope) (fc := fun _ => true) d.fn.body d.body (bk _ (.inr rfl)) ⟨rfl, rfl, takes_no⟩ h3
      · exact sp_body (F := d.fn) (fun xs S => call_run hdm) h2 hsp
    · refine ⟨tS K (fun c H => ∀ a, xaOf T mg c a → E (.ref a) none H) (exs G (call G (D.map Dfn.fn) lim n) lim d.fn.body), ?_, ?_⟩
      · refine okSs (T := T) (N := d.N) (sc := d.scope) (fc := fun _ => true) d.fn.body d.body (bk _ (.inl rfl)) ⟨rfl, rfl, ?_⟩ h3
        refine Takes.imp (takes_of rfl rfl rfl rfl) fun cls d' _ H' z => ?_
        obtain ⟨rfl, c, a, rfl, ha, q⟩ := z
        exact q a ha
      · refine sp_bodyX (F := d.fn) (fun xs S => ?_) h2 hsp
        exact call_far (by rw [List.length_map]; exact hfar) hdm
theorem lvl2 (hT : T.fns = D.map fun d => (d.name, d.fn.np)) (hfar : D.length ≤ far) (hD : D.all (chkD T) = true) (m : Mo T D G P w K mg) : ∀ n, LvA T D G P w K mg base lim n ∧ LvH T D G P w K mg base lim n
  | 0 => ⟨lvl0 hD, lvH hT hfar m 0 fun k e => nomatch e⟩
  | n + 1 => ⟨lvlS hT hfar hD m n (lvl2 hT hfar hD m n).1 (lvl2 hT hfar hD m n).2, lvH hT hfar m (n + 1) fun k e => by
    cases e
    exact (lvl2 hT hfar hD m n).1⟩
theorem lvl (hT : T.fns = D.map fun d => (d.name, d.fn.np)) (hfar : D.length ≤ far) (hD : D.all (chkD T) = true) (m : Mo T D G P w K mg) (n i : Nat) (d : Dfn) (hd : D[i]? = some d) (f : Addr) (fd : FuncData) (F : FunD K d.own d.qual d.params d.body d.scope [] [] f fd) :
    FnOk P w K mg base (L2.CX P w) n f fd d.ps (spB K (call G (D.map Dfn.fn) lim n) (xaOf T mg) i d.fn.np) := (lvl2 hT hfar hD m n).1 i d hd f fd F
/-- the law's own promise, from what the evaluator says of every script -/
theorem law_sp {FS : List Fn} {n i : Nat} {H : Hp} {a : Addr} {ns : List Int} (hO : Only H) (hS : SqL K H a (ns.map V.int)) (h : ∃ S', call G FS lim n i [.v (.scr (ns.map .int))] [] = some (.v (.bl true), S')) :
    spO K (call G FS lim n) i 1 [.ref a] H (fun v _ => v = .bl true) fun _ _ _ => False := by
  obtain ⟨S', h⟩ := h
  refine ⟨rfl, ⟨fun _ => 0, fun _ => False⟩, [], _, _, S', sim_nil (ρ := ⟨fun _ => 0, fun _ => False⟩) _ fun _ z => z.elim, .cons ?_ .nil, h, fun ρ' v' H' _ _ ve _ => ?_⟩
  · show VR K _ H (.scr _) (.ref a)
    rcases hS with (hS | ⟨o, hS⟩) | hS
    · rcases hO a with q | ⟨o, xs, q⟩
      · rw [hS] at q; cases q
      · rw [hS] at q; cases q
    · exact .scr hS (VRs.ofInts ns)
    · exact .scrK (fun H2 => .inr hS) (VRs.ofInts ns)
  · cases (show VR K _ H' (.bl true) v' from ve)
    rfl
end
/-! ### constants of the module -/
mutual
def cvB (K : Fg) : Value → PV → Bool
  | u, .non => (match u with | .none => true | _ => false)
  | u, .bl b => (match u with | .bool c => b == c | _ => false)
  | u, .int i => (match u with | .int j _ => decide (i = j) | _ => false)
  | u, .str x => (match u with | .str z _ => decide ((⟨x.toArray⟩ : Str) = z) && (x.all (fun c => Nat.blt c 1114112) && Nat.ble x.length line) | _ => false)
  | u, .tup ys => (match u with
    | .ref a => (match K.lookup a with
      | some ⟨.type c, _, .seq its _, _⟩ => decide (c = "tuple") && (decide (its.size ≤ sizeLine) && cvsB K its.toList ys)
      | _ => false)
    | _ => false)
  | _, _ => false
def cvsB (K : Fg) : List Value → List PV → Bool
  | us, [] => us.isEmpty
  | us, y :: ys => (match us with
    | u :: us => cvB K u y && cvsB K us ys
    | [] => false)
end
section
variable {K : Fg}
mutual
theorem cvB_ok : ∀ (y : PV) (u : Value), cvB K u y = true → ∃ v, RelV v u ∧ ∀ M H, VR K M H y v
  | .non, u, h => by
    unfold cvB at h
    split at h
    · exact ⟨.non, rfl, fun _ _ => .non⟩
    · cases h
  | .bl b, u, h => by
    unfold cvB at h
    split at h
    · rename_i c
      have e : b = c := by simpa using h
      subst e
      exact ⟨.bl b, rfl, fun _ _ => .bl b⟩
    · cases h
  | .int i, u, h => by
    unfold cvB at h
    split at h
    · have e := of_decide_eq_true h
      subst e
      exact ⟨.int i, ⟨_, rfl⟩, fun _ _ => .int i⟩
    · cases h
  | .str x, u, h => by
    unfold cvB at h
    split at h
    · rw [Bool.and_eq_true, Bool.and_eq_true] at h
      have e := of_decide_eq_true h.1
      subst e
      exact ⟨.str ⟨x.toArray⟩, ⟨_, rfl⟩, fun _ _ => .str x (okS_of h.2.1 h.2.2)⟩
    · cases h
  | .tup ys, u, h => by
    unfold cvB at h
    split at h
    · rename_i a
      split at h
      · rename_i c dd its n sl q
        simp only [Bool.and_eq_true] at h
        obtain ⟨h1, h2, h3⟩ := h
        obtain ⟨vs, r, g⟩ := cvsB_ok ys its.toList h3
        exact ⟨.ref a, rfl, fun M H => .tup (.inr ⟨_, its, n, q, congrArg Value.type (of_decide_eq_true h1), rfl, of_decide_eq_true h2, r⟩) (g M H)⟩
      · cases h
    · cases h
  | .lst _, u, h => by unfold cvB at h; cases h
  | .dic _ _ _, u, h => by unfold cvB at h; cases h
  | .scr _, u, h => by unfold cvB at h; cases h
theorem cvsB_ok : ∀ (ys : List PV) (us : List Value), cvsB K us ys = true → ∃ vs, Vals vs us ∧ ∀ M H, VRs K M H ys vs
  | [], us, h => by
    unfold cvsB at h
    rw [List.isEmpty_iff] at h
    subst h
    exact ⟨[], .nil, fun _ _ => .nil⟩
  | y :: ys, us, h => by
    unfold cvsB at h
    split at h
    · rw [Bool.and_eq_true] at h
      obtain ⟨v, r1, g1⟩ := cvB_ok y _ h.1
      obtain ⟨vs, r2, g2⟩ := cvsB_ok ys _ h.2
      exact ⟨v :: vs, .cons r1 r2, fun M H => .cons (g1 M H) (g2 M H)⟩
    · cases h
end
/-- the module's name x -/
def cgB (K : Fg) (q : Str × PV) : Bool := match PySem.W.nsIn K mainGlobals q.1 with
  | some (some u) => (match q.2 with
    | .dic _ ks vs => (match u with
      | .ref a => decide (ks.length = vs.length) && (ks.zip vs).all fun kv => (match kv.1 with
        | .str z => (match PySem.W.nsIn K a ⟨z.toArray⟩ with
          | some (some u2) => cvB K u2 kv.2
          | _ => false)
        | _ => false)
      | _ => false)
    | y => cvB K u y)
  | _ => false
theorem dget_mem {z : List Nat} {y : PV} : ∀ {ks vs : List PV}, dget ks vs (.str z) = some y → ∃ k, (k, y) ∈ ks.zip vs ∧ eqP k (.str z) = true
  | [], _, h => by simp [dget] at h
  | _ :: _, [], h => by simp [dget] at h
  | k :: ks, v :: vs, h => by
    simp only [dget] at h
    split at h
    · cases h
      exact ⟨k, by simp, ‹_›⟩
    · obtain ⟨k', h1, h2⟩ := dget_mem h
      exact ⟨k', by simp [h1], h2⟩
theorem cgB_val {h : Heap} {mg : Str → Option Value} (X : K.In h) (Gn : h.Ns mainGlobals mg) {x : Str} {y : PV} (c : cgB K (x, y) = true) (nc : isCon y = false) : ∃ u v, mg x = some u ∧ RelV v u ∧ ∀ M H, VR K M H y v := by
  unfold cgB at c
  split at c
  · rename_i u hu
    split at c
    · rename_i hy
      simp only at hy
      subst hy
      cases nc
    · obtain ⟨v, r, g⟩ := cvB_ok _ u c
      exact ⟨u, v, PySem.W.mg_of X Gn hu, r, g⟩
  · cases c
theorem cgB_dic {h : Heap} {mg : Str → Option Value} {w : World} (X : K.In h) (Gn : h.Ns mainGlobals mg) {x : Str} {t : Bool} {ks vs : List PV} (c : cgB K (x, .dic t ks vs) = true) (kd : ∃ es n, KDict K w (He.ga K x) es n) :
    ∃ p, mg x = some (.ref p) ∧ (p == sysModules) = false ∧ ∀ z y, dget ks vs (.str z) = some y → ∃ v, KDct K w p ⟨z.toArray⟩ v ∧ ∀ M H, VR K M H y v := by
  unfold cgB at c
  split at c
  · rename_i u hu
    split at c
    · rename_i hy
      cases hy
      split at c
      · rename_i a
        rw [Bool.and_eq_true] at c
        have ea : He.ga K x = a := by
          unfold He.ga
          rw [hu]
        rw [ea] at kd
        obtain ⟨es, n, kd⟩ := kd
        refine ⟨a, PySem.W.mg_of X Gn hu, kd.low, fun z y hd => ?_⟩
        obtain ⟨k, h1, h2⟩ := dget_mem hd
        have h3 := List.all_eq_true.mp c.2 _ h1
        simp only at h3
        cases k <;> first | cases h3 | skip
        rename_i z2
        have e2 : z2 = z := by
          have : (z2 == z) = true := h2
          simpa using this
        subst e2
        have h3 : (match PySem.W.nsIn K a ⟨z2.toArray⟩ with
          | some (some u2) => cvB K u2 y
          | _ => false) = true := h3
        cases q : PySem.W.nsIn K a ⟨z2.toArray⟩ with
        | none => rw [q] at h3; cases h3
        | some o =>
          rw [q] at h3
          cases o with
          | none => cases h3
          | some u2 =>
            obtain ⟨v, r, g⟩ := cvB_ok _ _ h3
            exact ⟨v, ⟨es, n, _, kd.at_, kd.lit, q, r⟩, g⟩
      · cases c
    · rename_i hy
      exact absurd rfl (hy t ks vs)
  · cases c
end
end Py

set_option Elab.async false
set_option linter.all false
set_option maxRecDepth 100000
set_option maxHeartbeats 4000000
namespace Py
open PySem PySem.Spec PyProof.Rows L2
def plainP (p : Arguments) (ps : List Str) : Bool := p.posonlyargs.isEmpty && (p.vararg.isNone && (p.kwonlyargs.isEmpty && (p.kwarg.isNone && decide (p.args.map (·.arg) = ps))))
theorem look_zip {ps : List Str} {us : List Value} (nd : ps.Nodup) (hl : us.length = ps.length) : ps.filterMap (fun n => ((ps.zip us).lookup n).map (n, ·)) = ps.zip us := by
  induction ps generalizing us with
  | nil => rfl
  | cons p ps ih =>
    cases us with
    | nil => cases hl
    | cons u us =>
      have nd' := List.nodup_cons.mp nd
      rw [List.filterMap_cons, List.zip_cons_cons]
      simp only [List.lookup_cons_self, Option.map_some]
      congr 1
      have hl' : us.length = ps.length := Nat.succ.inj hl
      refine Eq.trans ?_ (ih nd'.2 hl')
      have key : ∀ n ∈ ps, ((p, u) :: ps.zip us).lookup n = (ps.zip us).lookup n := fun n hn => by
        have : (n == p) = false := beq_eq_false_iff_ne.mpr fun e => nd'.1 (e ▸ hn)
        rw [List.lookup_cons, this]
      have : ∀ l : List Str, (∀ n ∈ l, n ∈ ps) → l.filterMap (fun n => (((p, u) :: ps.zip us).lookup n).map (n, ·)) = l.filterMap fun n => ((ps.zip us).lookup n).map (n, ·) := by
        intro l
        induction l with
        | nil => intro _; rfl
        | cons a l ih2 =>
          intro h
          rw [List.filterMap_cons, List.filterMap_cons, key a (h a (List.mem_cons_self ..)), ih2 fun n hn => h n (List.mem_cons_of_mem _ hn)]
      exact this ps fun _ h => h
theorem look_some {ps : List Str} {us : List Value} (hl : us.length = ps.length) {n : Str} (hn : n ∈ ps) : ((ps.zip us).lookup n).isNone = false := by
  induction ps generalizing us with
  | nil => cases hn
  | cons p ps ih =>
    cases us with
    | nil => cases hl
    | cons u us =>
      rw [List.zip_cons_cons, List.lookup_cons]
      cases q : n == p with
      | true => rfl
      | false =>
        rcases List.mem_cons.mp hn with e | hn
        · rw [e, beq_self_eq_true] at q; cases q
        · exact ih (Nat.succ.inj hl) hn
theorem bind_plain {x qual : Str} {params : Arguments} {body : List Stmt} {scope : Scope} {ps : List Str} (hp : plainP params ps = true) (nd : ps.Nodup) (kV doc pm : Value) (an : Option Addr) (cdv ct : Value) (us : List Value) (hl : us.length = ps.length) :
    bindArgs (PySem.W.fnOf x qual params body scope .none kV doc pm an cdv ct) ⟨us, []⟩ = pure (ps.zip us) := by
  obtain ⟨po, as, va, ko, kd, ka, df⟩ := params
  unfold plainP at hp
  simp only [Bool.and_eq_true, List.isEmpty_iff, Option.isNone_iff_eq_none, decide_eq_true_eq] at hp
  obtain ⟨rfl, rfl, rfl, rfl, rfl⟩ := hp
  unfold bindArgs
  have e0 : seqItems? Value.none = pure none := rfl
  have hl' : us.length = as.length := by simpa using hl
  have miss : (as.map (·.arg)).filter (fun n => (((as.map (·.arg)).zip us).lookup n).isNone) = [] := by
    rw [List.filter_eq_nil_iff]
    intro n hn
    rw [look_some hl hn]
    simp
  have lz := look_zip nd hl
  simp [PySem.W.fnOf, e0, hl', miss, lz]
  have key : ∀ k : Nat, ((as.map (·.arg)).take k).filter (fun n => (((as.map (·.arg)).zip us).lookup n).isNone) = [] := fun k => by
    rw [List.filter_eq_nil_iff]
    intro n hn
    rw [look_some hl (List.mem_of_mem_take hn)]
    simp
  rw [if_neg (fun h => by
    have h3 := (congrArg (fun l : List Str => !l.isEmpty) (key _)).symm.trans h
    cases h3)]
  exact congrArg pure (List.filterMap_map.symm.trans lz)
theorem for_kw {f : Str × Value → List (Str × Value) × List (Str × Value) → Sem (ForInStep (List (Str × Value) × List (Str × Value)))} {e : List (Str × Value)} : ∀ (l s : List (Str × Value)), (∀ kv ∈ l, ∀ s', kv.1 ∉ s'.map Prod.fst → f kv (s', e) = pure (.yield (s' ++ [kv], e))) → ((s ++ l).map Prod.fst).Nodup →
    forIn l (s, e) f = pure (s ++ l, e)
  | [], s, _, _ => by rw [List.append_nil]; rfl
  | kv :: l, s, h, nd => by
    rw [List.forIn_cons, h kv (List.mem_cons_self ..) s (fun hm => by
      rw [List.map_append, List.map_cons] at nd
      exact (List.nodup_append.mp nd).2.2 kv.1 hm kv.1 (List.mem_cons_self ..) rfl), pure_bind]
    have e2 : s ++ kv :: l = (s ++ [kv]) ++ l := by simp
    show forIn l (s ++ [kv], e) f = _
    rw [e2]
    rw [e2] at nd
    exact for_kw l (s ++ [kv]) (fun kv hm => h kv (List.mem_cons_of_mem _ hm)) nd
theorem bind_kw {x qual : Str} {params : Arguments} {body : List Stmt} {scope : Scope} {ps ks : List Str} (hp : plainP params ps = true) (hks : ks.all ps.contains = true) (ndk : ks.Nodup) (kV doc pm : Value) (an : Option Addr) (cdv ct : Value) (ws : List Value) (hl : ws.length = ks.length) (hall : ps.all ks.contains = true) :
    bindArgs (PySem.W.fnOf x qual params body scope .none kV doc pm an cdv ct) ⟨[], ks.zip ws⟩ = pure (ps.filterMap fun n => ((ks.zip ws).lookup n).map (n, ·)) := by
  obtain ⟨po, as, va, ko, kd, ka, df⟩ := params
  unfold plainP at hp
  simp only [Bool.and_eq_true, List.isEmpty_iff, Option.isNone_iff_eq_none, decide_eq_true_eq] at hp
  obtain ⟨rfl, rfl, rfl, rfl, rfl⟩ := hp
  unfold bindArgs
  have e0 : seqItems? Value.none = pure none := rfl
  have nds : (([] ++ ks.zip ws).map Prod.fst).Nodup := by
    rw [List.nil_append, List.map_fst_zip (by omega)]
    exact ndk
  have key : ∀ k : Nat, ((as.map (·.arg)).take k).filter (fun n => ((ks.zip ws).lookup n).isNone) = [] := fun k => by
    rw [List.filter_eq_nil_iff]
    intro n hn
    have hn2 : n ∈ ks := by simpa using List.all_eq_true.mp hall n (List.mem_of_mem_take hn)
    rw [look_some hl hn2]
    simp
  simp [PySem.W.fnOf, e0]
  rw [for_kw (ks.zip ws) [] (fun kv hkv s' hs => by
    have h1 : kv.1 ∈ ks := (List.of_mem_zip hkv).1
    have h2 : kv.1 ∈ as.map (·.arg) := by simpa using List.all_eq_true.mp hks _ h1
    have h3 : ∃ a, a ∈ as ∧ a.arg = kv.1 := by simpa using h2
    rw [if_pos h3, if_neg (fun q => by
      obtain ⟨v, hv⟩ := Option.isSome_iff_exists.mp q
      exact hs (List.mem_map.mpr ⟨_, PySem.mem_of_lookup hv, rfl⟩))]) nds, pure_bind]
  rw [List.nil_append]
  rw [if_neg (fun h => by
    have h3 := (congrArg (fun l : List Str => !l.isEmpty) (key _)).symm.trans h
    cases h3)]
theorem look_ix {p : Str} : ∀ {ks : List Str} {ws : List Value} {j : Nat}, ks.Nodup → ws.length = ks.length → ks[j]? = some p → (ks.zip ws).lookup p = ws[j]?
  | [], _, _, _, _, h => by simp at h
  | k :: ks, [], _, _, hl, _ => by cases hl
  | k :: ks, w :: ws, 0, _, _, h => by
    simp at h
    subst h
    simp
  | k :: ks, w :: ws, j + 1, nd, hl, h => by
    have nd := List.nodup_cons.mp nd
    have h : ks[j]? = some p := by simpa using h
    have ne : (p == k) = false := beq_eq_false_iff_ne.mpr fun e => nd.1 (e ▸ List.mem_of_getElem? h)
    rw [List.zip_cons_cons, List.lookup_cons, ne]
    simpa using look_ix nd.2 (Nat.succ.inj hl) h
theorem look_js {ks : List Str} {ws : List Value} (nd : ks.Nodup) (hl : ws.length = ks.length) : ∀ {ps : List Str} {js : List Nat}, js.map (fun j => ks[j]?) = ps.map some →
    ps.filterMap (fun n => ((ks.zip ws).lookup n).map (n, ·)) = ps.zip (js.filterMap (ws[·]?))
  | [], [], _ => rfl
  | [], _ :: _, h => by cases h
  | _ :: _, [], h => by cases h
  | p :: ps, j :: js, h => by
    simp only [List.map_cons, List.cons.injEq] at h
    have e := look_ix nd hl h.1
    have hj : j < ws.length := by rw [hl]; exact (List.getElem?_eq_some_iff.mp h.1).1
    rw [List.filterMap_cons, List.filterMap_cons, e, List.getElem?_eq_getElem hj]
    simp only [Option.map_some, List.zip_cons_cons]
    rw [look_js nd hl h.2]
theorem vals_pick {zs : List V} {ws : List Value} (r : Vals zs ws) : ∀ js : List Nat, Vals (js.filterMap (zs[·]?)) (js.filterMap (ws[·]?))
  | [] => .nil
  | j :: js => by
    rw [List.filterMap_cons, List.filterMap_cons]
    cases q : zs[j]? with
    | none =>
      have : ws[j]? = none := List.getElem?_eq_none (by rw [← r.length]; exact List.getElem?_eq_none_iff.mp q)
      rw [this]
      exact vals_pick r js
    | some z =>
      obtain ⟨u, h1, h2⟩ := r.get q
      rw [h1]
      exact .cons h2 (vals_pick r js)
/-! ### the module's facts, looked at once -/
section
variable (T : Tb) (ds : List Dfn) (G : List PV)
def dd (d : Dfn) : He.DefD := ⟨(d.name, none), d.own, d.qual, d.params, d.body, d.scope, [], []⟩
def hFn : List He.DefD := ds.map dd
def hFa : List He.Fa := ds.map (fun d => He.Fa.glo d.name) ++ (T.free.map He.Fa.free ++ T.exc.flatMap fun x => [He.Fa.glo x, .exc x, .exm x x true])
theorem hFa_free {x : Str} (h : x ∈ T.free) : He.Fa.free x ∈ hFa T ds := List.mem_append_right _ (List.mem_append_left _ (List.mem_map.mpr ⟨x, h, rfl⟩))
theorem hFa_exc {x : Str} (h : x ∈ T.exc) {f : He.Fa} (hf : f ∈ [He.Fa.glo x, .exc x, .exm x x true]) : f ∈ hFa T ds := List.mem_append_right _ (List.mem_append_right _ (List.mem_flatMap.mpr ⟨x, h, hf⟩))
def tabOf (q : Str × PV) : Option He.Tab := match q.2 with
  | .dic _ ks _ => some (fun K => He.ga K q.1, ks.filterMap fun k => match k with | .str z => some (⟨z.toArray⟩ : Str) | _ => none)
  | _ => none
def hTs : List He.Tab := (T.glo.zip G).filterMap tabOf
abbrev Al : Type := He.AlT × Bool
/-- what isinstance asks of the class at D -/
def isEB (K : Fg) (D : Addr) : Bool := decide (PySem.W.findIn K (.ref D) "__getattribute__" = some (some (.builtin "BaseException.__getattribute__"))) && (decide (PySem.W.findIn K (.ref D) "__getattr__" = some none) && (decide (PySem.W.subIn K (.ref D) (.type "BaseException") = some true) && (PySem.W.hasDictIn K D &&
  (decide (PySem.W.findIn K (.ref D) "__class__" = some (some (.builtin "object.__class__"))) && (decide (PySem.W.specialIn K (.builtin "object.__class__") "__get__" = some (some (.builtin "getset_descriptor.__get__"))) && (decide (PySem.W.takesIn K (.builtin "object.__class__") = some true) &&
  (decide (PySem.W.mroIn K D (.type "object") = some true) && decide (PySem.W.kitOne K (.ref D) (.type "ValueError") = some true))))))))
theorem isEB_ok {K : Fg} {D : Addr} (h : isEB K D = true) : L2.ExcC K D ∧ PySem.W.kitOne K (.ref D) (.type "ValueError") = some true := by
  unfold isEB at h
  simp only [Bool.and_eq_true, decide_eq_true_eq] at h
  obtain ⟨h1, h2, h3, h4, h5, h6, h7, h8, h9⟩ := h
  exact ⟨⟨h1, h2, h3, h4, h5, h6, h7, h8⟩, h9⟩
def hrB (K : Fg) : Bool := match T.hrd with
  | none => true
  | some _ => isEB K (He.ga K "CanNot")
/-- the def that hears, and what it names -/
def HrdOk : Prop := ∀ x, T.hrd = some x → ∃ (i : Nat) (d : Dfn), ds[i]? = some d ∧ d.name = x ∧ HearD d ∧ T.exc[0]? = some ("CanNot" : Str) ∧ ("isinstance" : Str) ∈ T.free ∧ ("ValueError" : Str) ∈ T.free
def obK (K : Fg) : Al := (He.obsT (hFa T ds) (hFn ds) (hTs T G) K, (T.glo.zip G).all (cgB K) && hrB T K)
def vlK (w : World) : Al := (He.valT (hFn ds) (hTs T G) w, true)
/-- the objects off a tree -/
def gT (t : PySem.W.BT) (n : Nat) (a : Addr) : Option Obj := match Nat.blt a n with
  | true => (match t.get a with
    | some o => PySem.W.alive o
    | none => PySem.W.alive default)
  | false => none
def getH (h : Heap) : Addr → Option Obj := match HandSHeadRun.putAll h.objs.toList .nil 0 with
  | some (t, n) => gT t n
  | none => h.get?
theorem getH_eq (h : Heap) : getH h = h.get? := by
  unfold getH
  cases e : HandSHeadRun.putAll h.objs.toList .nil 0 with
  | none => rfl
  | some r =>
    obtain ⟨t, n⟩ := r
    have eh := HandSHeadRun.putAll_heap e
    funext a
    have := HandSHeadRun.getT_eq (⟨t, n, h.life, #[], {}, 0, default⟩ : PySem.W.SharedT) a
    show gT t n a = h.get? a
    have e2 : (⟨t, n, h.life, #[], {}, 0, default⟩ : PySem.W.SharedT).abs.heap = h := eh
    rw [e2] at this
    rw [← this]
    rfl
/-- what the module's names reach, level by level -/
def lev (g : Addr → Option Obj) : Nat → List Addr → List Addr
  | 0, as => as
  | n + 1, as => as ++ lev g n (as.flatMap fun a => match g a with
    | some o => He.refsD o
    | none => [])
/-- the addresses that are asked for: the names' own objects, the defs with what they hold, the constants level by level -/
def refs1 (g : Addr → Option Obj) (a : Addr) : List Addr := match g a with
  | some o => He.refsD o
  | none => []
def kAs (g : Addr → Option Obj) : List Addr :=
  mainGlobals :: ((ds.flatMap fun d => He.ga (He.frG g [mainGlobals]) d.name :: refs1 g (He.ga (He.frG g [mainGlobals]) d.name)) ++ lev g 3 (((T.glo ++ T.exc).map (He.ga (He.frG g [mainGlobals]))).filter fun a => Nat.blt 0 a))
def withG (g : Addr → Option Obj) : Al := obK T ds G (He.frG g (kAs T ds g))
def hkP : PySem.W.Hook where
  α := Al
  obs := fun s => withG T ds G (getH s.heap)
  val := vlK T ds G
  says := fun w h => ∃ K : Fg, K.In h ∧ obK T ds G K = vlK T ds G w
  of := fun _ s e => ⟨_, He.frG_in, by rw [getH_eq] at e; exact e⟩
  keeps := fun _ _ _ ⟨K, hK, c⟩ k => ⟨K, PySem.W.Frag.In.keeps hK k, c⟩
/-- .. of the library's twin -/
def obP (s : PySem.W.SharedT) : Al := withG T ds G (HandSHeadRun.getT s)
theorem obP_eq (s : PySem.W.SharedT) : obP T ds G s = (hkP T ds G).obs s.abs := by
  show withG T ds G (HandSHeadRun.getT s) = withG T ds G (getH s.abs.heap)
  rw [getH_eq, show HandSHeadRun.getT s = s.abs.heap.get? from funext fun a => HandSHeadRun.getT_eq s a]
def kwC (e : Nat × List Str × List Nat) : Bool := match ds[e.1]? with
  | some d => decide e.2.1.Nodup && (e.2.1.all d.ps.contains && (d.ps.all e.2.1.contains && decide (e.2.2.map (fun j => e.2.1[j]?) = d.ps.map some)))
  | none => true
/-- what the texts alone decide -/
def chkM : Bool := decide (T.fns = ds.map fun d => (d.name, d.fn.np)) && (ds.all (chkD T) && (ds.all (fun d => plainP d.params d.ps && decide d.ps.Nodup) && (T.kws.all (kwC ds) && (decide (T.glo.length = G.length) && Nat.ble ds.length far))))
end
section
variable {T : Tb} {ds : List Dfn} {G : List PV} {P : Program} {w : World} {K : Fg} {h : Heap} {mg : Str → Option Value}
theorem mo_of (X : K.In h) (Gn : h.Ns mainGlobals mg) (c : obK T ds G K = vlK T ds G w) (hc : chkM T ds G = true) (hh : HrdOk T ds) : Mo T ds G P w K mg := by
  have c1 : He.SaysT (hFa T ds) (hFn ds) (hTs T G) w K := congrArg (fun z : Al => z.1) c
  have c0 : ((T.glo.zip G).all (cgB K) && hrB T K) = true := congrArg (fun z : Al => z.2) c
  rw [Bool.and_eq_true] at c0
  have c2 := c0.1
  unfold chkM at hc
  simp only [Bool.and_eq_true] at hc
  obtain ⟨k1, k2, k3, k4, k5, k6⟩ := hc
  have cst : ∀ (i : Nat) (x : Str) (y : PV), T.glo[i]? = some x → G[i]? = some y → cgB K (x, y) = true := fun i x y hx hy => by
    refine List.all_eq_true.mp c2 (x, y) (List.mem_of_getElem? (i := i) ?_)
    rw [List.getElem?_zip_eq_some]
    exact ⟨hx, hy⟩
  have FU : ∀ (i : Nat) (d : Dfn), ds[i]? = some d → ∃ f fd, FunD K d.own d.qual d.params d.body d.scope [] [] f fd ∧ mg d.name = some (.ref f) ∧ Binds K fd d.ps [] ∧ ∀ ks js, (i, ks, js) ∈ T.kws → KBn K fd d.ps 0 ks (fun _ ws => js.filterMap (ws[·]?)) (fun _ zs => js.filterMap (zs[·]?)) := fun i d hd => by
    have e1 : (hFn ds)[i]? = some (dd d) := by
      unfold hFn
      rw [List.getElem?_map, hd]
      rfl
    obtain ⟨fd, F⟩ := c1.d.def_ i (d := dd d) e1
    have F : FunD K d.own d.qual d.params d.body d.scope [] [] (He.ga K d.name) fd := F
    have hi : i < ds.length := (List.getElem?_eq_some_iff.mp hd).1
    have e2 : (hFa T ds)[i]? = some (.glo d.name) := by
      unfold hFa
      rw [List.getElem?_append_left (by simpa using hi), List.getElem?_map, hd]
      rfl
    have hp := List.all_eq_true.mp k3 d (List.mem_of_getElem? hd)
    rw [Bool.and_eq_true] at hp
    have nd := of_decide_eq_true hp.2
    refine ⟨_, fd, F, He.glo_ok X Gn (c1.d.fact i e2), F.bindsN fun kV doc pm an cdv ct us hl => bind_plain hp.1 nd kV doc pm an cdv ct us hl, fun ks js hm => ?_⟩
    have hk := List.all_eq_true.mp k4 _ hm
    unfold kwC at hk
    simp only [hd, Bool.and_eq_true] at hk
    obtain ⟨a1, a2, a3, a4⟩ := hk
    have a1 := of_decide_eq_true a1
    have a4 := of_decide_eq_true a4
    obtain ⟨oc, od, dV, kV, doc, pm, an, cdv, ct, osl, rfl, lk, hcd, hD, hK⟩ := F.ex
    rcases hD with ⟨_, rfl⟩ | ⟨e, _⟩
    · refine ⟨fun s us ws _ h1 h2 => ?_, fun r1 r2 => vals_pick r2 js⟩
      have : us = [] := List.length_eq_zero_iff.mp h1
      subst this
      exact .of_eq ((bind_kw hp.1 a2 a1 kV doc pm an cdv ct ws h2 a3).trans (congrArg pure (look_js a1 h2 a4)))
    · exact absurd rfl e
  have FR : ∀ x ∈ T.free, mg x = none := fun x hx => by
    obtain ⟨j, hj⟩ := List.getElem?_of_mem (hFa_free T ds hx)
    exact He.free_ok X Gn (c1.d.fact _ hj)
  have EX : ∀ (c : Nat) (x : Str), T.exc[c]? = some x → mg x = some (.ref (He.ga K x)) ∧ ExcC K (He.ga K x) := fun c x hx => by
    have hx := List.mem_of_getElem? hx
    obtain ⟨j1, h1⟩ := List.getElem?_of_mem (hFa_exc T ds hx (f := .glo x) (by simp))
    obtain ⟨j2, h2⟩ := List.getElem?_of_mem (hFa_exc T ds hx (f := .exc x) (by simp))
    obtain ⟨j3, h3⟩ := List.getElem?_of_mem (hFa_exc T ds hx (f := .exm x x true) (by simp))
    obtain ⟨q1, q2, q3, q4⟩ := He.exc_ok (c1.d.fact _ h2)
    exact ⟨He.glo_ok X Gn (c1.d.fact _ h1), q1, q2, q3, q4, He.exm_ok (c1.d.fact _ h3)⟩
  refine ⟨FU, fun i x y hx hy nc => cgB_val X Gn (cst i x y hx hy) nc, fun i x t ks vs hx hy => ?_, FR, fun c x hx => ⟨_, EX c x hx⟩, fun x hx => ?_⟩
  · have e1 : ∃ j : Nat, (hTs T G)[j]? = some (fun K => He.ga K x, ks.filterMap fun k => match k with | .str z => some (⟨z.toArray⟩ : Str) | _ => none) := by
      refine List.getElem?_of_mem (List.mem_filterMap.mpr ⟨(x, .dic t ks vs), List.mem_of_getElem? (i := i) ?_, rfl⟩)
      rw [List.getElem?_zip_eq_some]
      exact ⟨hx, hy⟩
    obtain ⟨j, hj⟩ := e1
    exact cgB_dic X Gn (cst i x _ hx hy) (c1.tab j hj)
  · obtain ⟨i, d, hd, en, H, e0, m1, m2⟩ := hh x hx
    obtain ⟨f, fd, F, hm, hb, _⟩ := FU i d hd
    have hr : hrB T K = true := c0.2
    unfold hrB at hr
    rw [hx] at hr
    obtain ⟨z1, z2⟩ := isEB_ok hr
    obtain ⟨g1, g2⟩ := EX 0 _ e0
    exact ⟨d, f, fd, _, F, by rw [← en]; exact hm, hb, H, ⟨g2, z1, z2⟩, g1, e0, FR _ m1, FR _ m2⟩
/-- THE END: the law's def is the i-th; what the evaluator says of every script -/
theorem ends {i lim n : Nat} {d : Dfn} {fa : Addr} {xp : Str} (hh : HrdOk T ds) (hc : chkM T ds G = true) (hd : ds[i]? = some d) (hps : d.ps = [xp]) (h1 : ∀ ns : List Int, ns.length ≤ 63 → ∃ S', call G (ds.map Dfn.fn) lim n i [.v (.scr (ns.map .int))] [] = some (.v (.bl true), S'))
    (Y : ∃ K : Fg, K.In h ∧ obK T ds G K = vlK T ds G w) (Gn : h.Ns mainGlobals mg) (hm : mg d.name = some (.ref fa)) :
    ∃ (K : PySem.W.Frag) (fd : FuncData) (sp : Sp), K.In h ∧ (∀ (s : Shared) (u : Value), BindsTo s fd ⟨[u], []⟩ [(xp, u)]) ∧
        (∀ (H : Hp) (a : Addr) (ns : List Int), ns.length ≤ 63 → Only H → SqL K H a (ns.map V.int) → sp [.ref a] H (fun v _ => v = .bl true) fun _ _ _ => False) ∧
        ∀ base : Heap, K.In base → base.Ns mainGlobals mg → FnOk P w K mg base (L2.CX P w) n fa fd [xp] sp := by
  obtain ⟨K, KX, c⟩ := Y
  have m : Mo T ds G P w K mg := mo_of KX Gn c hc hh
  obtain ⟨f, fd, F, hm2, hb, _⟩ := m.funs i d hd
  rw [hm] at hm2
  cases hm2
  have hcc := hc
  unfold chkM at hcc
  simp only [Bool.and_eq_true] at hcc
  obtain ⟨k1, k2, k3, k4, k5, k6⟩ := hcc
  have hp := List.all_eq_true.mp k3 d (List.mem_of_getElem? hd)
  rw [Bool.and_eq_true] at hp
  have hnp : d.fn.np = 1 := by
    have := (chkD_of (List.all_eq_true.mp k2 d (List.mem_of_getElem? hd))).2.1
    rw [this, hps]
    rfl
  refine ⟨K, fd, spO K (call G (ds.map Dfn.fn) lim n) i 1, KX, fun s u => ?_, fun H a ns hl hO hS => law_sp hO hS (h1 ns hl), fun base _ _ => ?_⟩
  · have := FunD.bindsA F (ps := d.ps) (fun kV doc pm an cdv ct us hl => bind_plain hp.1 (of_decide_eq_true hp.2) kV doc pm an cdv ct us hl) s [u] (by rw [hps]; rfl)
    rw [hps] at this
    exact this
  · have := (lvl (base := base) (lim := lim) (of_decide_eq_true k1) (Nat.le_of_ble_eq_true k6) k2 m n i d hd fa fd F).imp (sp' := spO K (call G (ds.map Dfn.fn) lim n) i d.fn.np) fun _ _ _ _ z => .inl z
    rw [hnp, hps] at this
    exact this
end
end Py

set_option Elab.async false
set_option linter.all false
set_option maxRecDepth 100000
set_option maxHeartbeats 4000000
namespace Py
open PySem PySem.Spec PyProof.Rows L2
/-! ### the law's own shapes -/
def cellsF : Fn := ⟨2, 6, [.set 2 (.mk (.bop false [.bi .list [.sl (.var 0) none (some (.var 1))], .lst [.cst (.int 0)]])), .forr (.tp [.nm 3, .nm 4]) (.enum (.sl (.var 0) (some (.var 1)) (some (.cst (.int 63))))) [.set 5 (.bin .mod (.bi .int [.var 3]) (.var 1)), .seti 2 (.var 5) (.bin .add (.ix (.var 2) (.var 5)) (.bin .mul (.var 4) (.bin .add (.var 3) (.cst (.int 2)))))], .ret (.var 2)]⟩
section
variable (G : List PV) (C : Ora) (w : Nat)
def cellsB : List Stm := [.set 5 (.bin .mod (.bi .int [.var 3]) (.var 1)), .seti 2 (.var 5) (.bin .add (.ix (.var 2) (.var 5)) (.bin .mul (.var 4) (.bin .add (.var 3) (.cst (.int 2)))))]
theorem mulOk_r {i j : Int} (h : j.natAbs < 18446744073709551616) : mulOk i j = true := by
  unfold mulOk
  have : Nat.blt j.natAbs 18446744073709551616 = true := by rw [Nat.blt_eq]; exact h
  rw [this]
  simp
theorem cells_turn (s : PV) (x k b : Int) (hk : 0 ≤ k) (hk2 : k < 1000) (e3 e4 e5 : Option EV) :
    hTurn (.tp [.nm 3, .nm 4]) (exs G C w cellsB) (.tup [.int k, .int b]) [some (.v s), some (.v (.int 1)), some (.r 0), e3, e4, e5] [.live (.lst [.int x])]
      = some (.next, [some (.v s), some (.v (.int 1)), some (.r 0), some (.v (.int k)), some (.v (.int b)), some (.v (.int 0))], [.live (.lst [.int (x + b * (k + 2))])]) := by
  have h1 : k.fmod 1 = 0 := by rw [Int.fmod_eq_emod_of_nonneg _ (by omega)]; omega
  have h2 : mulOk b (k + 2) = true := mulOk_r (by omega)
  simp [hTurn, asg, asgs, toR, cellsB, exs, ex, hCons, hNil, hSet, hSeti, ev, evs, gBin, gBi, gCons, gNil, gVar, mapO, rd, biF, binop, binI, h1, h2, toE, gIx, ixP, pyIx, stor, cellOf, setP, setL]
theorem cells_loop (s : PV) : ∀ (bs : List Int) (k x : Int) (e3 e4 e5 : Option EV), 0 ≤ k → k + bs.length < 1000 →
    ∃ x' e3' e4' e5', forL (hTurn (.tp [.nm 3, .nm 4]) (exs G C w cellsB)) (enumL k (bs.map .int)) [some (.v s), some (.v (.int 1)), some (.r 0), e3, e4, e5] [.live (.lst [.int x])]
      = some (.next, [some (.v s), some (.v (.int 1)), some (.r 0), e3', e4', e5'], [.live (.lst [.int x'])])
  | [], k, x, e3, e4, e5, _, _ => ⟨x, e3, e4, e5, rfl⟩
  | b :: bs, k, x, e3, e4, e5, h1, h2 => by
    simp only [List.length_cons, Int.natCast_add] at h2
    obtain ⟨x', a, b', c, h⟩ := cells_loop s bs (k + 1) (x + b * (k + 2)) (some (.v (.int k))) (some (.v (.int b))) (some (.v (.int 0))) (by omega) (by omega)
    refine ⟨x', a, b', c, ?_⟩
    simp only [List.map_cons, enumL, forL]
    rw [cells_turn G C w s x k b h1 (by omega)]
    exact h
theorem cut1 (ns : List Int) : cut (ns.map PV.int) (some 1) (some 63) = ((ns.drop 1).take 62).map PV.int ∨ ∃ bs : List Int, bs.length ≤ 63 ∧ cut (ns.map PV.int) (some 1) (some 63) = bs.map PV.int := by
  right
  unfold cut
  rw [← List.map_drop, ← List.map_take]
  refine ⟨_, ?_, rfl⟩
  rw [List.length_take]
  simp only [sIx]
  refine Nat.le_trans (Nat.min_le_left _ _) ?_
  simp
  omega
theorem cells_ok (ns : List Int) (S : Store) : ∃ x S', run G C w cellsF [.v (.scr (ns.map .int)), .v (.int 1)] [] = some (.own (.lst [.int x]), S') := by
  obtain ⟨bs, hl, hb⟩ : ∃ bs : List Int, bs.length ≤ 63 ∧ cut (ns.map PV.int) (some 1) (some 63) = bs.map PV.int := by
    rcases cut1 ns with h | h
    · exact ⟨_, by rw [List.length_take]; omega, h⟩
    · exact h
  obtain ⟨x0, h0⟩ : ∃ x0 : Int, hSet 2 (ev G C (.mk (.bop false [.bi .list [.sl (.var 0) none (some (.var 1))], .lst [.cst (.int 0)]]))) [some (.v (.scr (ns.map .int))), some (.v (.int 1)), none, none, none, none] []
      = some (.next, [some (.v (.scr (ns.map .int))), some (.v (.int 1)), some (.r 0), none, none, none], [.live (.lst [.int x0])]) := by
    cases ns with
    | nil => exact ⟨0, rfl⟩
    | cons n ns =>
      refine ⟨n, ?_⟩
      have : cut (PV.int n :: ns.map PV.int) none (some 1) = [.int n] := by
        simp [cut, sIx]
      simp [hSet, ev, evs, evB, evO, gMk, gOr, gBi, gCons, gNil, gSl, gPart, gVar, rd, rdT, slP, this, mapO, biF, truth, isCon, toE]
  obtain ⟨x', a, b, c, h1⟩ := cells_loop G C w (.scr (ns.map .int)) bs 0 x0 none none none (by omega) (by omega)
  refine ⟨x', [.dead], ?_⟩
  unfold run
  show (match exs G C w cellsF.body [some (.v (.scr (ns.map .int))), some (.v (.int 1)), none, none, none, none] [] with
    | some (.next, _, S1) => some (RV.v .non, S1)
    | some (.ret v, _, S1) => fin 0 S1 v
    | _ => none) = some (RV.own (.lst [.int x']), [Cell.dead])
  have e : exs G C w cellsF.body [some (.v (.scr (ns.map .int))), some (.v (.int 1)), none, none, none, none] [] = some (.ret (.r 0), [some (.v (.scr (ns.map .int))), some (.v (.int 1)), some (.r 0), a, b, c], [.live (.lst [.int x'])]) := by
    have hI : evI G C (.enum (.sl (.var 0) (some (.var 1)) (some (.cst (.int 63))))) [some (.v (.scr (ns.map .int))), some (.v (.int 1)), some (.r 0), none, none, none] [.live (.lst [.int x0])] = some (enumL 0 (bs.map .int), .v .non, [.live (.lst [.int x0])]) := by
      simp [evI, gEnum, ev, gSl, gVar, gPart, evO, rd, slP, hb, stor]
    have hF : hFor (.tp [.nm 3, .nm 4]) (evI G C (.enum (.sl (.var 0) (some (.var 1)) (some (.cst (.int 63)))))) (exs G C w cellsB) [some (.v (.scr (ns.map .int))), some (.v (.int 1)), some (.r 0), none, none, none] [.live (.lst [.int x0])]
        = some (.next, [some (.v (.scr (ns.map .int))), some (.v (.int 1)), some (.r 0), a, b, c], [.live (.lst [.int x'])]) := by
      unfold hFor
      rw [hI]
      show (match forL _ _ _ [Cell.live (PV.lst [PV.int x0])] with
        | some (fl, E9, S9) => some (fl, E9, unlock S9 [Cell.live (PV.lst [PV.int x0])] (.v .non))
        | none => none) = _
      rw [h1]
      rfl
    have hn : ∀ {f g : RS} {E E1 : Env} {S S1 : Store}, f E S = some (.next, E1, S1) → hCons f g E S = g E1 S1 := fun h => by simp [hCons, h]
    exact (hn h0).trans ((hn hF).trans rfl)
  rw [e]
  rfl
/-- `if not f(): return False` -/
theorem guard {E : Env} {i : Nat} {b r : List Stm} {S' : Store} (h : C i [] [] = some (.v (.bl true), S')) : exs G C w (.ife (.no (.call i [])) b [] :: r) E [] = exs G C w r E [] := by
  simp [exs, ex, hCons, hNil, hIfe, ev, evs, gNo, gCall, gNil, callP, mapO, noCs, h, noCr, noC, ofR, rdT, rd, truth]
theorem cells_len {s : PV} {i : Nat} {b r : List Stm} {x : Int} {S' : Store} (hs : noC s = true) (h : C i [.v s, .v (.int 1)] [] = some (.own (.lst [.int x]), S')) :
    exs G C w (.ife (.cmp .ne (.bi .len [.call i [.var 0, .cst (.int 1)]]) (.cst (.int 1))) b [] :: r) [some (.v s)] [] = exs G C w r [some (.v s)] [] := by
  simp [exs, ex, hCons, hNil, hIfe, ev, evs, gCmp, gBi, gCall, gCons, gNil, gVar, callP, mapO, noCs, h, hs, noCr, noC, ofR, rdT, rd, truth, isR, biF, cmpop, eqOk, dep, eqP]
end
def okT : Option (RV × Store) → Bool
  | some (.v (.bl true), _) => true
  | _ => false
theorem okT_of {o : Option (RV × Store)} (h : okT o = true) : ∃ S', o = some (.v (.bl true), S') := by
  unfold okT at h
  split at h
  · exact ⟨_, rfl⟩
  · cases h
theorem noC_ints : ∀ ns : List Int, noCs (ns.map PV.int) = true
  | [] => rfl
  | n :: ns => by simp [noCs, noC, noC_ints ns]
/-- a law that asks for its cells and then for tests without a parameter -/
def testsB (c : Nat) (is : List Nat) : List Stm := .ife (.cmp .ne (.bi .len [.call c [.var 0, .cst (.int 1)]]) (.cst (.int 1))) [.ret (.cst (.bl false))] [] :: (is.map (fun i => Stm.ife (.no (.call i [])) [.ret (.cst (.bl false))] []) ++ [.ret (.cst (.bl true))])
theorem tests_tail (G : List PV) (C : Ora) (w : Nat) (E : Env) : ∀ (is : List Nat), (∀ i ∈ is, okT (C i [] []) = true) →
    exs G C w (is.map (fun i => Stm.ife (.no (.call i [])) [.ret (.cst (.bl false))] []) ++ [.ret (.cst (.bl true))]) E [] = some (.ret (.v (.bl true)), E, [])
  | [], _ => by simp [exs, ex, hCons, hRet, ev]
  | i :: is, h => by
    obtain ⟨S', e⟩ := okT_of (h i (List.mem_cons_self ..))
    rw [List.map_cons, List.cons_append, guard G C w e]
    exact tests_tail G C w E is fun j hj => h j (List.mem_cons_of_mem _ hj)
theorem tests_law {G : List PV} {T : List Fn} {w n i c : Nat} {is : List Nat} (hi : T[i]? = some ⟨1, 1, testsB c is⟩) (hc : T[c]? = some cellsF) (h : is.all (fun j => okT (call G T w (n + 1) j [] [])) = true) (ns : List Int) :
    ∃ S', call G T w (n + 2) i [.v (.scr (ns.map .int))] [] = some (.v (.bl true), S') := by
  obtain ⟨x, S', e⟩ := cells_ok G (call G T w n) w ns []
  have e1 : call G T w (n + 1) c [.v (.scr (ns.map .int)), .v (.int 1)] [] = some (.own (.lst [.int x]), S') := by
    rw [← e]
    rw [call_run hc]
  refine ⟨[], ?_⟩
  have e2 : exs G (call G T w (n + 1)) w (testsB c is) [some (.v (.scr (ns.map .int)))] [] = some (.ret (.v (.bl true)), [some (.v (.scr (ns.map .int)))], []) := by
    unfold testsB
    rw [cells_len G _ w (by simp [noC, noC_ints]) e1]
    exact tests_tail G _ w _ is fun j hj => List.all_eq_true.mp h j hj
  rw [call_run hi]
  simp [run, toE, e2, fin]
end Py
namespace L2
open PySem PySem.Spec PyProof.Rows
theorem walk_ofW {l : PySem.W.OpenLaw} {n k : Nat} {q : Program} {loose : List Str} {XP : (Str → Option Value) → Heap → Prop} {YP : World → Heap → Prop} {d : DefRec} {CX : World → CXT} {x : Str}
    (hn : l.most = some n) (hn2 : n ≤ sizeLine) (hdf : d.params.defaults = []) (hr : Room k callerA)
    (F : ∀ (w : World) (mg : Str → Option Value) (fa : Addr) (h : Heap), YP w h → h.Ns mainGlobals mg → mg d.name = some (.ref fa) →
      ∃ (K : PySem.W.Frag) (fd : FuncData) (sp : Sp), K.In h ∧ (∀ (s : Shared) (u : Value), BindsTo s fd ⟨[u], []⟩ [(x, u)]) ∧
        (∀ (H : Hp) (a : Addr) (ns : List Int), ns.length ≤ n → Only H → SqL K H a (ns.map V.int) → sp [.ref a] H (fun v _ => v = .bl true) fun _ _ _ => False) ∧
        ∀ base : Heap, K.In base → base.Ns mainGlobals mg → FnOk l.prog w K mg base (CX w) k fa fd [x] sp)
    (hCX : ∀ (w : World) (H : Hp) (s : Shared) (e : Value) (s' : Shared), CX w [] H s (fun _ _ _ => False) e s' → False) :
    PySem.W.WalkO q loose XP YP l.row.toRowW d [] (fun f vs => PySem.call f vs) := by
  refine Att.attach_call hn hdf fun w s₀ s₁ mg mb fa o pm cd doc a vs ns G Y ho hd hcd hmg hobj hints hlen hg => ?_
  obtain ⟨K, fd, sp, KX, hb, hsp, hF⟩ := F w mg fa _ Y G.T.g hmg
  exact law_call KX G.T.g G.T.b G.T.builtins G.T.nolimit hg hobj hints (Nat.le_trans hlen hn2) hr hF hb (fun H hO hS => hsp H a ns hlen hO hS) fun H e s' => hCX w H s₁ e s'
end L2

set_option maxRecDepth 100000
namespace A71
open Py
/-- is_number -/
def f0 : Fn := ⟨1, 1, [.ret (.bop true [.isi (.var 0) [.int], .no (.isi (.var 0) [.bool])])]⟩
/-- is_from -/
def f1 : Fn := ⟨2, 2, [.ret (.bop true [.call 0 [.var 0], .cmp .ge (.var 0) (.var 1)])]⟩
/-- is_long -/
def f2 : Fn := ⟨2, 2, [.ret (.bop true [.isi (.var 0) [.tuple], .cmp .eq (.bi .len [.var 0]) (.var 1)])]⟩
/-- tupled -/
def f3 : Fn := ⟨1, 2, [.ret (.ife (.isi (.var 0) [.list, .tuple]) (.bi .tuple [.comp [1] (.nm 1) (.val (.var 0)) none (.call 3 [.var 1])]) (.var 0))]⟩
/-- are_numbers -/
def f4 : Fn := ⟨1, 2, [.ret (.bop true [.isi (.var 0) [.tuple], .bi .all [.comp [1] (.nm 1) (.val (.var 0)) none (.call 0 [.var 1])]])]⟩
/-- are_from -/
def f5 : Fn := ⟨2, 3, [.ret (.bop true [.call 4 [.var 0], .bi .all [.comp [2] (.nm 2) (.val (.var 0)) none (.cmp .ge (.var 2) (.var 1))]])]⟩
/-- is_row_of -/
def f6 : Fn := ⟨3, 3, [.ife (.cmp .is (.var 2) (.cst (.non))) [.ret (.bop true [.call 2 [.var 0, .var 1], .call 4 [.var 0]])] [], .ret (.bop true [.call 2 [.var 0, .var 1], .call 5 [.var 0, .var 2]])]⟩
/-- common -/
def f7 : Fn := ⟨2, 2, [.par [0, 1] [.bi .abs [.var 0], .bi .abs [.var 1]], .whil (.cmp .gt (.var 1) (.cst (.int 0))) [.par [0, 1] [.var 1, .bin .mod (.var 0) (.var 1)]], .ret (.var 0)]⟩
/-- sure_number -/
def f8 : Fn := ⟨1, 1, [.ife (.no (.call 0 [.var 0])) [.never] [], .ret (.var 0)]⟩
/-- sure_from -/
def f9 : Fn := ⟨2, 2, [.ife (.no (.call 1 [.var 0, .var 1])) [.never] [], .ret (.var 0)]⟩
/-- extended -/
def f10 : Fn := ⟨2, 8, [.par [2, 3] [.tup [.var 0, .cst (.int 1), .cst (.int 0)], .tup [.var 1, .cst (.int 0), .cst (.int 1)]], .whil (.cmp .ne (.ix (.var 3) (.cst (.int 0))) (.cst (.int 0))) [.set 4 (.bin .fdiv (.ix (.var 2) (.cst (.int 0))) (.ix (.var 3) (.cst (.int 0)))), .par [2, 3] [.var 3, .bi .tuple [.comp [6, 7] (.tp [.nm 6, .nm 7]) (.zip (.var 2) (.var 3)) none (.bin .sub (.var 6) (.bin .mul (.var 4) (.var 7)))]]], .ret (.ife (.cmp .ge (.ix (.var 2) (.cst (.int 0))) (.cst (.int 0))) (.var 2) (.bi .tuple [.comp [5] (.nm 5) (.val (.var 2)) none (.neg (.var 5))]))]⟩
/-- pairs_of -/
def f11 : Fn := ⟨1, 1, [.ret (.bin .fdiv (.bin .mul (.var 0) (.bin .sub (.var 0) (.cst (.int 1)))) (.cst (.int 2)))]⟩
/-- is_triple -/
def f12 : Fn := ⟨1, 1, [.ret (.call 6 [.var 0, .cst (.int 3), .cst (.non)])]⟩
/-- rest -/
def f13 : Fn := ⟨2, 2, [.ret (.ife (.cmp .eq (.var 1) (.cst (.int 0))) (.var 0) (.bin .mod (.var 0) (.var 1)))]⟩
/-- divides -/
def f14 : Fn := ⟨2, 2, [.ret (.ife (.cmp .eq (.var 0) (.cst (.int 0))) (.cmp .eq (.var 1) (.cst (.int 0))) (.cmp .eq (.bin .mod (.var 1) (.var 0)) (.cst (.int 0))))]⟩
/-- is_deed -/
def f15 : Fn := ⟨1, 1, [.ret (.call 12 [.var 0])]⟩
/-- sure_deed -/
def f16 : Fn := ⟨1, 2, [.set 1 (.call 3 [.var 0]), .ife (.no (.call 12 [.var 1])) [.never] [], .ret (.var 1)]⟩
/-- sure_deeds -/
def f17 : Fn := ⟨1, 3, [.set 1 (.call 3 [.var 0]), .ife (.bop false [.no (.isi (.var 1) [.tuple]), .no (.bi .all [.comp [2] (.nm 2) (.val (.var 1)) none (.call 12 [.var 2])])]) [.never] [], .ret (.var 1)]⟩
/-- joined -/
def f18 : Fn := ⟨2, 2, [.ret (.tup [.bin .add (.ix (.var 0) (.cst (.int 0))) (.ix (.var 1) (.cst (.int 0))), .bin .add (.ix (.var 0) (.cst (.int 1))) (.ix (.var 1) (.cst (.int 1))), .bin .add (.bin .add (.ix (.var 0) (.cst (.int 2))) (.ix (.var 1) (.cst (.int 2)))) (.bin .mul (.ix (.var 0) (.cst (.int 0))) (.ix (.var 1) (.cst (.int 1))))])]⟩
/-- product -/
def f19 : Fn := ⟨2, 4, [.par [2, 3] [.call 16 [.var 0], .call 16 [.var 1]], .ret (.call 18 [.var 2, .var 3])]⟩
/-- undone_in -/
def f20 : Fn := ⟨1, 1, [.ret (.tup [.neg (.ix (.var 0) (.cst (.int 0))), .neg (.ix (.var 0) (.cst (.int 1))), .bin .sub (.bin .mul (.ix (.var 0) (.cst (.int 0))) (.ix (.var 0) (.cst (.int 1)))) (.ix (.var 0) (.cst (.int 2)))])]⟩
/-- undone -/
def f21 : Fn := ⟨1, 1, [.ret (.call 20 [.call 16 [.var 0]])]⟩
/-- times_in -/
def f22 : Fn := ⟨2, 2, [.ret (.tup [.bin .mul (.var 1) (.ix (.var 0) (.cst (.int 0))), .bin .mul (.var 1) (.ix (.var 0) (.cst (.int 1))), .bin .add (.bin .mul (.var 1) (.ix (.var 0) (.cst (.int 2)))) (.bin .mul (.bin .mul (.call 11 [.var 1]) (.ix (.var 0) (.cst (.int 0)))) (.ix (.var 0) (.cst (.int 1))))])]⟩
/-- repeated -/
def f23 : Fn := ⟨2, 4, [.par [2, 3] [.call 16 [.var 0], .call 8 [.var 1]], .ret (.call 22 [.var 2, .var 3])]⟩
/-- crossed -/
def f24 : Fn := ⟨2, 2, [.ret (.bin .sub (.bin .mul (.ix (.var 0) (.cst (.int 0))) (.ix (.var 1) (.cst (.int 1)))) (.bin .mul (.ix (.var 0) (.cst (.int 1))) (.ix (.var 1) (.cst (.int 0)))))]⟩
/-- round_trip_in -/
def f25 : Fn := ⟨2, 2, [.ret (.tup [.cst (.int 0), .cst (.int 0), .call 24 [.var 0, .var 1]])]⟩
/-- round_trip -/
def f26 : Fn := ⟨2, 4, [.par [2, 3] [.call 16 [.var 0], .call 16 [.var 1]], .ret (.call 25 [.var 2, .var 3])]⟩
/-- led_by_in -/
def f27 : Fn := ⟨2, 2, [.ret (.tup [.ix (.var 0) (.cst (.int 0)), .ix (.var 0) (.cst (.int 1)), .bin .add (.ix (.var 0) (.cst (.int 2))) (.call 24 [.var 1, .var 0])])]⟩
/-- led_by -/
def f28 : Fn := ⟨2, 4, [.par [2, 3] [.call 16 [.var 0], .call 16 [.var 1]], .ret (.call 27 [.var 2, .var 3])]⟩
/-- root_in -/
def f29 : Fn := ⟨2, 8, [.tset (.tp [.nm 3, .nm 4, .nm 5]) (.var 0), .ife (.bop false [.cmp .ne (.bin .mod (.var 3) (.var 1)) (.cst (.int 0)), .cmp .ne (.bin .mod (.var 4) (.var 1)) (.cst (.int 0))]) [.ret (.cst (.non))] [], .par [6, 7] [.bin .fdiv (.var 3) (.var 1), .bin .fdiv (.var 4) (.var 1)], .set 2 (.bin .sub (.var 5) (.bin .mul (.bin .mul (.call 11 [.var 1]) (.var 6)) (.var 7))), .ret (.ife (.cmp .eq (.bin .mod (.var 2) (.var 1)) (.cst (.int 0))) (.tup [.var 6, .var 7, .bin .fdiv (.var 2) (.var 1)]) (.cst (.non)))]⟩
/-- has_root -/
def f30 : Fn := ⟨2, 4, [.par [2, 3] [.call 16 [.var 0], .call 9 [.var 1, .cst (.int 1)]], .ret (.cmp .isnot (.call 29 [.var 2, .var 3]) (.cst (.non)))]⟩
/-- root_of -/
def f31 : Fn := ⟨2, 5, [.par [3, 4] [.call 16 [.var 0], .call 9 [.var 1, .cst (.int 1)]], .set 2 (.call 29 [.var 3, .var 4]), .ife (.cmp .is (.var 2) (.cst (.non))) [.rais 0] [], .ret (.var 2)]⟩
/-- most_times -/
def f32 : Fn := ⟨1, 6, [.tset (.tp [.nm 1, .nm 2, .nm 3]) (.var 0), .ife (.cmp .eq (.tup [.var 1, .var 2]) (.tup [.cst (.int 0), .cst (.int 0)])) [.ret (.bi .abs [.var 3])] [], .par [4, 5] [.call 7 [.var 1, .var 2], .bin .sub (.bin .mul (.cst (.int 2)) (.var 3)) (.bin .mul (.var 1) (.var 2))], .ife (.cmp .eq (.bin .mod (.bin .mul (.bin .fdiv (.var 1) (.var 4)) (.bin .fdiv (.var 2) (.var 4))) (.cst (.int 2))) (.cst (.int 0))) [.ret (.call 7 [.var 4, .bin .fdiv (.var 5) (.cst (.int 2))])] [], .ret (.call 7 [.var 4, .bin .fdiv (.bin .sub (.var 5) (.var 4)) (.cst (.int 2))])]⟩
/-- greatest_root -/
def f33 : Fn := ⟨1, 3, [.set 1 (.call 16 [.var 0]), .ife (.cmp .eq (.var 1) (.tup [.cst (.int 0), .cst (.int 0), .cst (.int 0)])) [.rais 0] [], .set 2 (.call 32 [.var 1]), .ret (.tup [.var 2, .call 29 [.var 1, .var 2]])]⟩
/-- times_to -/
def f34 : Fn := ⟨2, 6, [.par [3, 4] [.call 16 [.var 0], .call 16 [.var 1]], .forr (.nm 2) (.val (.tup [.cst (.int 0), .cst (.int 1), .cst (.int 2)])) [.ife (.cmp .ne (.ix (.var 3) (.var 2)) (.cst (.int 0))) [.set 5 (.bin .fdiv (.ix (.var 4) (.var 2)) (.ix (.var 3) (.var 2))), .ife (.cmp .eq (.call 22 [.var 3, .var 5]) (.var 4)) [.ret (.var 5)] [], .rais 0] []], .ife (.cmp .ne (.var 4) (.tup [.cst (.int 0), .cst (.int 0), .cst (.int 0)])) [.rais 0] [], .ret (.cst (.int 0))]⟩
/-- is_made_by -/
def f35 : Fn := ⟨2, 2, [.tryc 34 [.var 0, .var 1] 0 (.bl false), .ret (.cst (.bl true))]⟩
/-- reach -/
def f36 : Fn := ⟨1, 1, [.ret (.call 7 [.ix (.var 0) (.cst (.int 0)), .ix (.var 0) (.cst (.int 1))])]⟩
/-- are_kin_in -/
def f37 : Fn := ⟨2, 2, [.ret (.bop true [.cmp .eq (.sl (.var 0) none (some (.cst (.int 2)))) (.sl (.var 1) none (some (.cst (.int 2)))), .call 14 [.call 36 [.var 0], .bin .sub (.ix (.var 1) (.cst (.int 2))) (.ix (.var 0) (.cst (.int 2)))]])]⟩
/-- are_kin -/
def f38 : Fn := ⟨2, 4, [.par [2, 3] [.call 16 [.var 0], .call 16 [.var 1]], .ret (.call 37 [.var 2, .var 3])]⟩
/-- least_kin -/
def f39 : Fn := ⟨1, 4, [.tset (.tp [.nm 1, .nm 2, .nm 3]) (.call 16 [.var 0]), .ret (.tup [.var 1, .var 2, .ife (.cmp .ne (.tup [.var 1, .var 2]) (.tup [.cst (.int 0), .cst (.int 0)])) (.bin .mod (.var 3) (.call 36 [.tup [.var 1, .var 2]])) (.var 3)])]⟩
/-- span_by -/
def f40 : Fn := ⟨3, 16, [.tset (.tp [.nm 8, .nm 9, .nm 10]) (.call 10 [.var 0, .var 1]), .set 3 (.bin .fdiv (.var 2) (.var 8)), .par [11, 12] [.bin .mul (.var 10) (.var 3), .bin .mul (.neg (.var 9)) (.var 3)], .par [13, 14] [.bin .fdiv (.var 0) (.var 8), .bin .fdiv (.var 1) (.var 8)], .set 4 (.lst [.ife (.cmp .ne (.var 13) (.cst (.int 0))) (.neg (.bin .fdiv (.var 11) (.var 13))) (.cst (.int 0)), .ife (.cmp .ne (.var 14) (.cst (.int 0))) (.neg (.bin .fdiv (.var 12) (.var 14))) (.cst (.int 0))]), .set 5 (.mk (.lst [])), .forr (.nm 6) (.val (.var 4)) [.forr (.nm 15) (.val (.tup [.bin .sub (.var 6) (.cst (.int 2)), .bin .sub (.var 6) (.cst (.int 1)), .var 6, .bin .add (.var 6) (.cst (.int 1)), .bin .add (.var 6) (.cst (.int 2))])) [.app 5 (.tup [.bin .add (.bi .abs [.bin .add (.var 11) (.bin .mul (.var 15) (.var 13))]) (.bi .abs [.bin .add (.var 12) (.bin .mul (.var 15) (.var 14))]), .bin .add (.var 11) (.bin .mul (.var 15) (.var 13)), .bin .add (.var 12) (.bin .mul (.var 15) (.var 14))])]], .set 7 (.bi .minL [.var 5]), .ret (.tup [.ix (.var 7) (.cst (.int 1)), .ix (.var 7) (.cst (.int 2))])]⟩
/-- leading -/
def f41 : Fn := ⟨2, 6, [.par [2, 3] [.call 16 [.var 0], .call 16 [.var 1]], .ife (.no (.call 37 [.var 2, .var 3])) [.rais 0] [], .ife (.cmp .eq (.sl (.var 2) none (some (.cst (.int 2)))) (.tup [.cst (.int 0), .cst (.int 0)])) [.ret (.tup [.cst (.int 0), .cst (.int 0), .cst (.int 0)])] [], .tset (.tp [.nm 4, .nm 5]) (.call 40 [.ix (.var 2) (.cst (.int 0)), .ix (.var 2) (.cst (.int 1)), .bin .sub (.ix (.var 3) (.cst (.int 2))) (.ix (.var 2) (.cst (.int 2)))]), .ret (.tup [.var 4, .var 5, .cst (.int 0)])]⟩
/-- is_leading -/
def f42 : Fn := ⟨3, 5, [.par [3, 4] [.call 16 [.var 0], .call 16 [.var 1]], .ret (.bop true [.call 15 [.var 2], .cmp .eq (.call 27 [.var 3, .var 2]) (.var 4)])]⟩
/-- do_commute -/
def f43 : Fn := ⟨2, 4, [.par [2, 3] [.call 16 [.var 0], .call 16 [.var 1]], .ret (.cmp .eq (.call 24 [.var 2, .var 3]) (.cst (.int 0)))]⟩
/-- trips_for -/
def f44 : Fn := ⟨2, 4, [.par [2, 3] [.call 16 [.var 0], .call 8 [.var 1]], .ife (.no (.call 14 [.call 36 [.var 2], .var 3])) [.rais 0] [], .ret (.ife (.cmp .ne (.call 36 [.var 2]) (.cst (.int 0))) (.call 40 [.ix (.var 2) (.cst (.int 0)), .ix (.var 2) (.cst (.int 1)), .var 3]) (.tup [.cst (.int 0), .cst (.int 0)]))]⟩
/-- exchanged -/
def f45 : Fn := ⟨3, 4, [.whil (.cmp .ne (.ix (.var 1) (.var 2)) (.cst (.int 0))) [.set 3 (.bin .fdiv (.ix (.var 0) (.var 2)) (.ix (.var 1) (.var 2))), .par [0, 1] [.var 1, .call 18 [.var 0, .call 22 [.var 1, .neg (.var 3)]]]], .ret (.tup [.var 0, .var 1])]⟩
/-- plain_form -/
def f46 : Fn := ⟨3, 3, [.ife (.bop true [.cmp .isnot (.var 0) (.cst (.non)), .cmp .lt (.ix (.var 0) (.cst (.int 0))) (.cst (.int 0))]) [.set 0 (.call 20 [.var 0])] [], .ife (.bop true [.cmp .isnot (.var 1) (.cst (.non)), .cmp .lt (.ix (.var 1) (.cst (.int 1))) (.cst (.int 0))]) [.set 1 (.call 20 [.var 1])] [], .ife (.bop true [.cmp .isnot (.var 0) (.cst (.non)), .cmp .isnot (.var 1) (.cst (.non))]) [.set 0 (.call 18 [.var 0, .call 22 [.var 1, .neg (.bin .fdiv (.ix (.var 0) (.cst (.int 1))) (.ix (.var 1) (.cst (.int 1))))]])] [], .ife (.cmp .isnot (.var 0) (.cst (.non))) [.set 0 (.tup [.ix (.var 0) (.cst (.int 0)), .ix (.var 0) (.cst (.int 1)), .call 13 [.ix (.var 0) (.cst (.int 2)), .var 2]])] [], .ife (.cmp .isnot (.var 1) (.cst (.non))) [.set 1 (.tup [.cst (.int 0), .ix (.var 1) (.cst (.int 1)), .call 13 [.ix (.var 1) (.cst (.int 2)), .var 2]])] [], .ret (.tup [.var 0, .var 1, .var 2])]⟩
/-- with_deed -/
def f47 : Fn := ⟨2, 6, [.tset (.tp [.nm 4, .nm 5, .nm 3]) (.var 0), .set 2 (.var 1), .ife (.cmp .ne (.ix (.var 2) (.cst (.int 0))) (.cst (.int 0))) [.ife (.cmp .is (.var 4) (.cst (.non))) [.par [4, 2] [.var 2, .glo 0]] [.tset (.tp [.nm 4, .nm 2]) (.call 45 [.var 4, .var 2, .cst (.int 0)])]] [], .ife (.cmp .ne (.ix (.var 2) (.cst (.int 1))) (.cst (.int 0))) [.ife (.cmp .is (.var 5) (.cst (.non))) [.par [5, 2] [.var 2, .glo 0]] [.tset (.tp [.nm 5, .nm 2]) (.call 45 [.var 5, .var 2, .cst (.int 1)])]] [], .set 3 (.call 7 [.var 3, .ix (.var 2) (.cst (.int 2))]), .ife (.bop true [.cmp .isnot (.var 4) (.cst (.non)), .cmp .isnot (.var 5) (.cst (.non))]) [.set 3 (.call 7 [.var 3, .call 24 [.var 4, .var 5]])] [], .ret (.call 46 [.var 4, .var 5, .var 3])]⟩
/-- made_by -/
def f48 : Fn := ⟨1, 3, [.set 1 (.glo 1), .forr (.nm 2) (.val (.var 0)) [.set 1 (.call 47 [.var 1, .var 2])], .ret (.var 1)]⟩
/-- kernel_of -/
def f49 : Fn := ⟨3, 8, [.ife (.bop true [.cmp .eq (.var 2) (.cst (.int 0)), .cmp .eq (.var 0) (.cst (.int 0)), .cmp .eq (.var 1) (.cst (.int 0))]) [.ret (.lst [.tup [.cst (.int 1), .cst (.int 0)], .tup [.cst (.int 0), .cst (.int 1)]])] [], .ife (.cmp .eq (.var 2) (.cst (.int 0))) [.set 7 (.call 7 [.var 0, .var 1]), .ret (.lst [.tup [.bin .fdiv (.var 1) (.var 7), .bin .fdiv (.neg (.var 0)) (.var 7)]])] [], .set 3 (.call 7 [.var 1, .var 2]), .set 4 (.bin .fdiv (.var 2) (.var 3)), .set 5 (.bin .fdiv (.var 3) (.call 7 [.var 3, .var 0])), .set 6 (.ix (.call 10 [.var 1, .var 2]) (.cst (.int 1))), .ret (.lst [.tup [.var 5, .bin .mod (.bin .mul (.neg (.bin .fdiv (.bin .mul (.var 5) (.var 0)) (.var 3))) (.var 6)) (.var 4)], .tup [.cst (.int 0), .var 4]])]⟩
/-- combined -/
def f50 : Fn := ⟨2, 4, [.tset (.tp [.nm 2, .nm 3]) (.var 0), .ret (.tup [.bin .add (.bin .mul (.ix (.var 1) (.cst (.int 0))) (.ix (.var 2) (.cst (.int 0)))) (.bin .mul (.ix (.var 1) (.cst (.int 1))) (.ix (.var 3) (.cst (.int 0)))), .bin .add (.bin .mul (.ix (.var 1) (.cst (.int 0))) (.ix (.var 2) (.cst (.int 1)))) (.bin .mul (.ix (.var 1) (.cst (.int 1))) (.ix (.var 3) (.cst (.int 1))))])]⟩
/-- lines_kept -/
def f51 : Fn := ⟨3, 4, [.ife (.cmp .eq (.var 1) (.cst (.int 0))) [.ret (.lst [.var 0])] [], .ife (.cmp .eq (.var 2) (.cst (.int 0))) [.ret (.lst [])] [], .set 3 (.bin .fdiv (.var 2) (.call 7 [.var 2, .var 1])), .ret (.lst [.tup [.bin .mul (.var 3) (.ix (.var 0) (.cst (.int 0))), .bin .mul (.var 3) (.ix (.var 0) (.cst (.int 1)))]])]⟩
/-- keeping_pairs -/
def f52 : Fn := ⟨2, 8, [.set 2 (.lst [.tup [.cst (.int 1), .cst (.int 0)], .tup [.cst (.int 0), .cst (.int 1)]]), .forr (.tp [.nm 3, .nm 4]) (.val (.var 0)) [.ife (.cmp .ne (.var 2) (.lst [])) [.set 5 (.comp [6, 7] (.tp [.nm 6, .nm 7]) (.val (.var 2)) none (.bin .sub (.bin .mul (.var 6) (.var 4)) (.bin .mul (.var 7) (.var 3)))), .set 2 (.call 53 [.var 2, .var 5, .var 1])] []], .ret (.var 2)]⟩
/-- kept_by -/
def f53 : Fn := ⟨3, 4, [.ife (.cmp .eq (.bi .len [.var 0]) (.cst (.int 2))) [.ret (.comp [3] (.nm 3) (.val (.call 49 [.ix (.var 1) (.cst (.int 0)), .ix (.var 1) (.cst (.int 1)), .var 2])) none (.call 50 [.var 0, .var 3]))] [], .ret (.call 51 [.ix (.var 0) (.cst (.int 0)), .ix (.var 1) (.cst (.int 0)), .var 2])]⟩
/-- commuting_with -/
def f54 : Fn := ⟨1, 5, [.set 1 (.call 17 [.var 0]), .set 2 (.call 52 [.comp [3] (.nm 3) (.val (.var 1)) none (.sl (.var 3) none (some (.cst (.int 2)))), .cst (.int 0)]), .ret (.call 48 [.bin .add (.comp [4] (.nm 4) (.val (.var 2)) none (.bin .add (.var 4) (.tup [.cst (.int 0)]))) (.lst [.tup [.cst (.int 0), .cst (.int 0), .cst (.int 1)]])])]⟩
/-- tilt -/
def f55 : Fn := ⟨1, 1, [.ret (.bin .sub (.bin .mul (.cst (.int 2)) (.ix (.var 0) (.cst (.int 2)))) (.bin .mul (.ix (.var 0) (.cst (.int 0))) (.ix (.var 0) (.cst (.int 1)))))]⟩
/-- crossing -/
def f56 : Fn := ⟨3, 8, [.set 3 (.call 24 [.var 0, .var 1]), .par [4, 5] [.call 24 [.var 2, .var 1], .call 24 [.var 0, .var 2]], .ife (.bop false [.cmp .ne (.bin .mod (.var 4) (.var 3)) (.cst (.int 0)), .cmp .ne (.bin .mod (.var 5) (.var 3)) (.cst (.int 0))]) [.ret (.tup [.glo 2])] [], .par [6, 7] [.bin .fdiv (.var 4) (.var 3), .bin .fdiv (.var 5) (.var 3)], .ife (.cmp .ne (.call 18 [.call 22 [.var 0, .var 6], .call 22 [.var 1, .var 7]]) (.var 2)) [.ret (.tup [.glo 2])] [], .ret (.tup [.glo 3, .var 6, .var 7])]⟩
/-- rows_for -/
def f57 : Fn := ⟨3, 5, [.set 3 (.comp [4] (.nm 4) (.val (.tup [.cst (.int 0), .cst (.int 1)])) none (.tup [.ix (.var 0) (.var 4), .ix (.var 1) (.var 4), .ix (.var 2) (.var 4)])), .ret (.bin .add (.var 3) (.lst [.tup [.call 55 [.var 0], .call 55 [.var 1], .call 55 [.var 2]]]))]⟩
/-- along_line -/
def f58 : Fn := ⟨1, 4, [.set 0 (.comp [2] (.nm 2) (.val (.var 0)) (some (.cmp .ne (.var 2) (.tup [.cst (.int 0), .cst (.int 0), .cst (.int 0)]))) (.var 2)), .ife (.cmp .eq (.var 0) (.lst [])) [.ret (.tup [.glo 4])] [], .ife (.bi .any [.comp [2] (.nm 2) (.val (.var 0)) none (.cmp .eq (.sl (.var 2) none (some (.cst (.int 2)))) (.tup [.cst (.int 0), .cst (.int 0)]))]) [.ret (.tup [.glo 2])] [], .set 1 (.ix (.var 0) (.cst (.int 0))), .forr (.nm 2) (.val (.sl (.var 0) (some (.cst (.int 1))) none)) [.set 3 (.bin .sub (.bin .mul (.ix (.var 1) (.cst (.int 0))) (.ix (.var 2) (.cst (.int 1)))) (.bin .mul (.ix (.var 1) (.cst (.int 1))) (.ix (.var 2) (.cst (.int 0))))), .ife (.cmp .ne (.var 3) (.cst (.int 0))) [.ret (.call 59 [.var 0, .var 1, .var 2])] []], .ret (.call 60 [.var 0, .var 1])]⟩
/-- one_pair -/
def f59 : Fn := ⟨3, 9, [.set 3 (.bin .sub (.bin .mul (.ix (.var 1) (.cst (.int 0))) (.ix (.var 2) (.cst (.int 1)))) (.bin .mul (.ix (.var 1) (.cst (.int 1))) (.ix (.var 2) (.cst (.int 0))))), .par [4, 5] [.bin .sub (.bin .mul (.ix (.var 1) (.cst (.int 2))) (.ix (.var 2) (.cst (.int 1)))) (.bin .mul (.ix (.var 1) (.cst (.int 1))) (.ix (.var 2) (.cst (.int 2)))), .bin .sub (.bin .mul (.ix (.var 1) (.cst (.int 0))) (.ix (.var 2) (.cst (.int 2)))) (.bin .mul (.ix (.var 1) (.cst (.int 2))) (.ix (.var 2) (.cst (.int 0))))], .ife (.bop false [.cmp .ne (.bin .mod (.var 4) (.var 3)) (.cst (.int 0)), .cmp .ne (.bin .mod (.var 5) (.var 3)) (.cst (.int 0))]) [.ret (.tup [.glo 2])] [], .tset (.tp [.nm 6, .nm 7]) (.tup [.bin .fdiv (.var 4) (.var 3), .bin .fdiv (.var 5) (.var 3)]), .ife (.bi .any [.comp [8] (.nm 8) (.val (.var 0)) none (.cmp .ne (.bin .add (.bin .mul (.ix (.var 8) (.cst (.int 0))) (.var 6)) (.bin .mul (.ix (.var 8) (.cst (.int 1))) (.var 7))) (.ix (.var 8) (.cst (.int 2))))]) [.ret (.tup [.glo 2])] [], .ret (.tup [.glo 3, .var 6, .var 7])]⟩
/-- one_line -/
def f60 : Fn := ⟨2, 8, [.ife (.bi .any [.comp [7] (.nm 7) (.val (.var 0)) none (.bop false [.cmp .ne (.bin .mul (.ix (.var 1) (.cst (.int 0))) (.ix (.var 7) (.cst (.int 2)))) (.bin .mul (.ix (.var 1) (.cst (.int 2))) (.ix (.var 7) (.cst (.int 0)))), .cmp .ne (.bin .mul (.ix (.var 1) (.cst (.int 1))) (.ix (.var 7) (.cst (.int 2)))) (.bin .mul (.ix (.var 1) (.cst (.int 2))) (.ix (.var 7) (.cst (.int 1))))])]) [.ret (.tup [.glo 2])] [], .tset (.tp [.nm 4, .nm 5, .nm 6]) (.call 10 [.ix (.var 1) (.cst (.int 0)), .ix (.var 1) (.cst (.int 1))]), .ife (.cmp .ne (.bin .mod (.ix (.var 1) (.cst (.int 2))) (.var 4)) (.cst (.int 0))) [.ret (.tup [.glo 2])] [], .set 2 (.call 61 [.bin .fdiv (.ix (.var 1) (.cst (.int 1))) (.var 4), .bin .fdiv (.neg (.ix (.var 1) (.cst (.int 0)))) (.var 4)]), .set 3 (.bin .fdiv (.ix (.var 1) (.cst (.int 2))) (.var 4)), .ret (.tup [.glo 5, .call 62 [.tup [.bin .mul (.var 5) (.var 3), .bin .mul (.var 6) (.var 3)], .var 2], .var 2])]⟩
/-- plain_step -/
def f61 : Fn := ⟨2, 2, [.ret (.ife (.bop false [.cmp .gt (.var 0) (.cst (.int 0)), .bop true [.cmp .eq (.var 0) (.cst (.int 0)), .cmp .gt (.var 1) (.cst (.int 0))]]) (.tup [.var 0, .var 1]) (.tup [.neg (.var 0), .neg (.var 1)]))]⟩
/-- plain_start -/
def f62 : Fn := ⟨2, 4, [.set 2 (.ife (.cmp .ne (.ix (.var 1) (.cst (.int 0))) (.cst (.int 0))) (.cst (.int 0)) (.cst (.int 1))), .set 3 (.bin .fdiv (.ix (.var 0) (.var 2)) (.ix (.var 1) (.var 2))), .ret (.tup [.bin .sub (.ix (.var 0) (.cst (.int 0))) (.bin .mul (.var 3) (.ix (.var 1) (.cst (.int 0)))), .bin .sub (.ix (.var 0) (.cst (.int 1))) (.bin .mul (.var 3) (.ix (.var 1) (.cst (.int 1))))])]⟩
/-- pairs_for -/
def f63 : Fn := ⟨3, 6, [.par [3, 4, 5] [.call 16 [.var 0], .call 16 [.var 1], .call 16 [.var 2]], .ife (.cmp .ne (.call 24 [.var 3, .var 4]) (.cst (.int 0))) [.ret (.call 56 [.var 3, .var 4, .var 5])] [], .ife (.bop true [.bop false [.cmp .ne (.sl (.var 3) none (some (.cst (.int 2)))) (.tup [.cst (.int 0), .cst (.int 0)]), .cmp .ne (.sl (.var 4) none (some (.cst (.int 2)))) (.tup [.cst (.int 0), .cst (.int 0)])], .no (.call 64 [.var 3, .var 4, .var 5])]) [.ret (.tup [.glo 2])] [], .ret (.call 58 [.call 57 [.var 3, .var 4, .var 5]])]⟩
/-- lies_along -/
def f64 : Fn := ⟨3, 3, [.ret (.bop true [.cmp .eq (.call 24 [.var 0, .var 2]) (.cst (.int 0)), .cmp .eq (.call 24 [.var 1, .var 2]) (.cst (.int 0))])]⟩
/-- can_make -/
def f65 : Fn := ⟨3, 3, [.ret (.cmp .ne (.call 63 [.var 0, .var 1, .var 2]) (.tup [.glo 2]))]⟩
/-- all_leading -/
def f66 : Fn := ⟨2, 4, [.par [2, 3] [.call 16 [.var 0], .call 16 [.var 1]], .ife (.no (.call 37 [.var 2, .var 3])) [.rais 0] [], .ret (.tup [.call 41 [.var 2, .var 3], .call 54 [.tup [.var 2]]])]⟩
/-- half_way -/
def f67 : Fn := ⟨2, 7, [.par [2, 3] [.call 16 [.var 0], .call 16 [.var 1]], .tset (.tp [.nm 4, .nm 5, .nm 6]) (.call 18 [.call 20 [.var 2], .var 3]), .ife (.bop false [.cmp .ne (.bin .mod (.var 4) (.cst (.int 2))) (.cst (.int 0)), .cmp .ne (.bin .mod (.var 5) (.cst (.int 2))) (.cst (.int 0)), .cmp .ne (.bin .mod (.bin .sub (.var 6) (.bin .mul (.bin .fdiv (.var 4) (.cst (.int 2))) (.bin .fdiv (.var 5) (.cst (.int 2))))) (.cst (.int 2))) (.cst (.int 0))]) [.rais 0] [], .ret (.tup [.bin .fdiv (.var 4) (.cst (.int 2)), .bin .fdiv (.var 5) (.cst (.int 2)), .bin .fdiv (.bin .sub (.var 6) (.bin .mul (.bin .fdiv (.var 4) (.cst (.int 2))) (.bin .fdiv (.var 5) (.cst (.int 2))))) (.cst (.int 2))])]⟩
/-- is_map -/
def f68 : Fn := ⟨1, 2, [.ret (.bop true [.call 2 [.var 0, .cst (.int 2)], .bi .all [.comp [1] (.nm 1) (.val (.var 0)) none (.call 15 [.var 1])]])]⟩
/-- sure_map -/
def f69 : Fn := ⟨1, 2, [.set 1 (.call 3 [.var 0]), .ife (.no (.call 68 [.var 1])) [.never] [], .ret (.var 1)]⟩
/-- led_in -/
def f70 : Fn := ⟨2, 8, [.tset (.tp [.nm 3, .nm 4]) (.var 0), .tset (.tp [.nm 5, .nm 6, .nm 7]) (.var 1), .set 2 (.call 18 [.call 22 [.var 4, .var 6], .call 22 [.var 3, .var 5]]), .ret (.tup [.ix (.var 2) (.cst (.int 0)), .ix (.var 2) (.cst (.int 1)), .bin .add (.ix (.var 2) (.cst (.int 2))) (.bin .mul (.call 24 [.var 3, .var 4]) (.var 7))])]⟩
/-- led_to -/
def f71 : Fn := ⟨2, 4, [.par [2, 3] [.call 69 [.var 0], .call 16 [.var 1]], .ret (.call 70 [.var 2, .var 3])]⟩
/-- inner_of -/
def f72 : Fn := ⟨1, 2, [.set 1 (.call 16 [.var 0]), .ret (.tup [.call 27 [.glo 6, .var 1], .call 27 [.glo 7, .var 1]])]⟩
/-- _law_box -/
def f73 : Fn := ⟨2, 3, [.set 2 (.ife (.cmp .lt (.var 1) (.bi .len [.var 0])) (.ix (.var 0) (.var 1)) (.cst (.int 0))), .ret (.lst [.bin .mul (.bi .abs [.var 2]) (.bi .int [.cmp .ge (.bi .abs [.var 2]) (.bin .pow (.cst (.int 10)) (.cst (.int 18)))]), .bin .add (.bin .add (.bin .mod (.bi .int [.var 2]) (.cst (.int 2305843009213693951))) (.bin .mul (.cst (.int 39373)) (.var 1))) (.cst (.int 9301071)), .cst (.int 0)])]⟩
/-- _law_take -/
def f74 : Fn := ⟨2, 6, [.ife (.cmp .gt (.ix (.var 0) (.cst (.int 0))) (.cst (.int 0))) [.set 5 (.bin .mod (.bi .int [.ix (.var 0) (.cst (.int 0))]) (.var 1)), .seti 0 (.cst (.int 0)) (.bin .fdiv (.ix (.var 0) (.cst (.int 0))) (.var 1)), .ret (.var 5)] [], .seti 0 (.cst (.int 2)) (.bin .add (.ix (.var 0) (.cst (.int 2))) (.cst (.int 1))), .set 2 (.bin .mod (.bi .int [.bin .mul (.bin .add (.ix (.var 0) (.cst (.int 1))) (.bin .mul (.cst (.int 48271)) (.ix (.var 0) (.cst (.int 2))))) (.bin .add (.cst (.int 39373)) (.ix (.var 0) (.cst (.int 2))))]) (.cst (.int 2147483647))), .set 3 (.bin .add (.bin .mod (.bi .int [.var 2]) (.cst (.int 40009))) (.cst (.int 7))), .set 4 (.bin .mod (.bi .int [.bin .mul (.bin .add (.bin .add (.var 2) (.ix (.var 0) (.cst (.int 2)))) (.bin .fdiv (.ix (.var 0) (.cst (.int 1))) (.cst (.int 1000003)))) (.var 3)]) (.cst (.int 2147483629))), .ret (.bin .mod (.bi .int [.bin .fdiv (.bin .mod (.bi .int [.bin .add (.bin .mul (.var 4) (.cst (.int 48271))) (.var 2)]) (.cst (.int 2147483587))) (.cst (.int 64))]) (.var 1))]⟩
/-- _law_cells -/
def f75 : Fn := ⟨2, 6, [.set 2 (.mk (.bop false [.bi .list [.sl (.var 0) none (some (.var 1))], .lst [.cst (.int 0)]])), .forr (.tp [.nm 3, .nm 4]) (.enum (.sl (.var 0) (some (.var 1)) (some (.cst (.int 63))))) [.set 5 (.bin .mod (.bi .int [.var 3]) (.var 1)), .seti 2 (.var 5) (.bin .add (.ix (.var 2) (.var 5)) (.bin .mul (.var 4) (.bin .add (.var 3) (.cst (.int 2)))))], .ret (.var 2)]⟩
/-- _law_of -/
def f76 : Fn := ⟨2, 2, [.ret (.ix (.var 1) (.callS 74 [.var 0, .bi .len [.var 1]]))]⟩
/-- _law_same -/
def f77 : Fn := ⟨2, 4, [.ife (.isi (.var 1) [.list, .tuple]) [.ife (.bop false [.cmp .ne (.isi (.var 0) [.list]) (.isi (.var 1) [.list]), .cmp .ne (.isi (.var 0) [.tuple]) (.isi (.var 1) [.tuple])]) [.ret (.cst (.bl false))] [], .ret (.bop true [.cmp .eq (.bi .len [.var 0]) (.bi .len [.var 1]), .bi .all [.comp [2, 3] (.tp [.nm 2, .nm 3]) (.zip (.var 0) (.var 1)) none (.call 77 [.var 2, .var 3])]])] [], .ife (.cmp .is (.var 1) (.cst (.non))) [.ret (.cmp .is (.var 0) (.cst (.non)))] [], .ife (.isi (.var 1) [.bool, .str]) [.ret (.bop true [.cmp .eq (.isi (.var 0) [.bool]) (.isi (.var 1) [.bool]), .cmp .eq (.isi (.var 0) [.str]) (.isi (.var 1) [.str]), .cmp .eq (.var 0) (.var 1)])] [], .ret (.bop true [.isi (.var 0) [.int], .no (.isi (.var 0) [.bool]), .cmp .eq (.var 0) (.var 1)])]⟩
/-- _law_gcd -/
def f78 : Fn := ⟨2, 3, [.par [0, 1] [.bi .abs [.var 0], .bi .abs [.var 1]], .forr (.nm 2) (.rng [.cst (.int 10000)]) [.ife (.cmp .eq (.var 1) (.cst (.int 0))) [.brk] [], .par [0, 1] [.var 1, .bin .mod (.bi .int [.var 0]) (.var 1)]], .ret (.var 0)]⟩
/-- _law_join -/
def f79 : Fn := ⟨2, 2, [.ret (.tup [.bin .add (.ix (.var 0) (.cst (.int 0))) (.ix (.var 1) (.cst (.int 0))), .bin .add (.ix (.var 0) (.cst (.int 1))) (.ix (.var 1) (.cst (.int 1))), .bin .add (.bin .add (.ix (.var 0) (.cst (.int 2))) (.ix (.var 1) (.cst (.int 2)))) (.bin .mul (.ix (.var 0) (.cst (.int 0))) (.ix (.var 1) (.cst (.int 1))))])]⟩
/-- _law_times -/
def f80 : Fn := ⟨2, 2, [.ret (.tup [.bin .mul (.var 1) (.ix (.var 0) (.cst (.int 0))), .bin .mul (.var 1) (.ix (.var 0) (.cst (.int 1))), .bin .add (.bin .mul (.var 1) (.ix (.var 0) (.cst (.int 2)))) (.bin .mul (.bin .mul (.bin .fdiv (.bin .mul (.var 1) (.bin .sub (.var 1) (.cst (.int 1)))) (.cst (.int 2))) (.ix (.var 0) (.cst (.int 0)))) (.ix (.var 0) (.cst (.int 1))))])]⟩
/-- _law_whole -/
def f81 : Fn := ⟨2, 2, [.ret (.ife (.cmp .lt (.var 1) (.bin .pow (.cst (.int 10)) (.cst (.int 8)))) (.bin .mul (.callS 74 [.var 0, .bin .add (.var 1) (.cst (.int 1))]) (.bin .sub (.cst (.int 1)) (.bin .mul (.cst (.int 2)) (.callS 74 [.var 0, .cst (.int 2)])))) (.bin .mul (.bin .sub (.callS 74 [.var 0, .bin .pow (.cst (.int 10)) (.cst (.int 8))]) (.bin .pow (.cst (.int 10)) (.cst (.int 7)))) (.bin .fdiv (.var 1) (.bin .pow (.cst (.int 10)) (.cst (.int 8))))))]⟩
/-- _law_deed -/
def f82 : Fn := ⟨2, 2, [.ret (.tup [.callS 81 [.var 0, .var 1], .callS 81 [.var 0, .var 1], .callS 81 [.var 0, .var 1]])]⟩
/-- _law_parts -/
def f83 : Fn := ⟨2, 7, [.par [3, 4] [.var 1, .mk (.lst [])], .forr (.nm 2) (.val (.tup [.cst (.int 0), .cst (.int 1)])) [.par [5, 6] [.ix (.var 0) (.var 2), .cst (.int 0)], .ife (.cmp .isnot (.var 5) (.cst (.non))) [.set 6 (.bin .fdiv (.ix (.var 3) (.var 2)) (.ix (.var 5) (.var 2))), .set 3 (.call 79 [.call 80 [.var 5, .neg (.var 6)], .var 3])] [], .app 4 (.var 6)], .ife (.cmp .ne (.sl (.var 3) none (some (.cst (.int 2)))) (.tup [.cst (.int 0), .cst (.int 0)])) [.ret (.cst (.non))] [], .ife (.cmp .eq (.ix (.var 0) (.cst (.int 2))) (.cst (.int 0))) [.ret (.ife (.cmp .eq (.ix (.var 3) (.cst (.int 2))) (.cst (.int 0))) (.tup [.ix (.var 4) (.cst (.int 0)), .ix (.var 4) (.cst (.int 1)), .cst (.int 0)]) (.cst (.non)))] [], .ret (.ife (.cmp .eq (.bin .mod (.bi .int [.ix (.var 3) (.cst (.int 2))]) (.ix (.var 0) (.cst (.int 2)))) (.cst (.int 0))) (.tup [.ix (.var 4) (.cst (.int 0)), .ix (.var 4) (.cst (.int 1)), .bin .fdiv (.ix (.var 3) (.cst (.int 2))) (.ix (.var 0) (.cst (.int 2)))]) (.cst (.non)))]⟩
/-- _law_has -/
def f84 : Fn := ⟨2, 2, [.ret (.cmp .isnot (.call 83 [.var 0, .var 1]) (.cst (.non)))]⟩
/-- _law_makers -/
def f85 : Fn := ⟨1, 2, [.ret (.bin .add (.comp [1] (.nm 1) (.val (.sl (.var 0) none (some (.cst (.int 2))))) (some (.cmp .isnot (.var 1) (.cst (.non)))) (.var 1)) (.ife (.cmp .gt (.ix (.var 0) (.cst (.int 2))) (.cst (.int 0))) (.lst [.tup [.cst (.int 0), .cst (.int 0), .ix (.var 0) (.cst (.int 2))]]) (.lst [])))]⟩
/-- _law_heard -/
def f86 : Fn := ⟨3, 5, [.tset (.tp [.nm 3, .nm 4]) (.tup [.cst (.non), .cst (.non)]), .never, .ret (.ife (.cmp .is (.var 4) (.cst (.non))) (.var 3) (.var 4))]⟩
/-- law -/
def f87 : Fn := ⟨1, 22, [.set 1 (.mk (.call 73 [.call 75 [.var 0, .cst (.int 1)], .cst (.int 0)])), .forr (.nm 2) (.rng [.cst (.int 5)]) [.set 3 (.callS 76 [.var 1, .lst [.cst (.int 2), .cst (.int 6), .cst (.int 40), .bin .pow (.cst (.int 10)) (.cst (.int 6))]]), .par [10, 11, 12] [.callS 82 [.var 1, .var 3], .callS 82 [.var 1, .var 3], .bin .add (.cst (.int 1)) (.callS 74 [.var 1, .cst (.int 6)])], .set 4 (.call 80 [.var 10, .var 12]), .ife (.no (.call 77 [.lst [.call 30 [.var 4, .var 12], .call 31 [.var 4, .var 12], .call 31 [.call 28 [.var 4, .var 11], .var 12], .call 30 [.call 21 [.var 4], .var 12]], .lst [.cst (.bl true), .var 10, .call 28 [.var 10, .var 11], .cst (.bl true)]])) [.ret (.cst (.bl false))] [], .tset (.tp [.nm 13, .nm 14, .nm 15]) (.var 11), .set 5 (.bop true [.cmp .eq (.bin .mod (.var 13) (.var 12)) (.cst (.int 0)), .cmp .eq (.bin .mod (.var 14) (.var 12)) (.cst (.int 0)), .cmp .eq (.bin .mod (.bin .sub (.var 15) (.bin .mul (.bin .mul (.bin .fdiv (.bin .mul (.bin .sub (.var 12) (.cst (.int 1))) (.var 12)) (.cst (.int 2))) (.bin .fdiv (.var 13) (.var 12))) (.bin .fdiv (.var 14) (.var 12)))) (.var 12)) (.cst (.int 0))]), .ife (.bop false [.cmp .ne (.call 30 [.var 11, .var 12]) (.var 5), .cmp .eq (.cmp .eq (.heard 31 [.var 11, .var 12]) (.lst [.cst (.str [99, 97, 110, 32, 110, 111, 116]), .cst (.bl true)])) (.var 5)]) [.ret (.cst (.bl false))] [], .ife (.cmp .ne (.var 10) (.tup [.cst (.int 0), .cst (.int 0), .cst (.int 0)])) [.tset (.tp [.nm 19, .nm 20]) (.call 33 [.var 4]), .ife (.bop false [.cmp .ne (.call 23 [.var 20, .var 19]) (.var 4), .cmp .ne (.bin .mod (.var 19) (.var 12)) (.cst (.int 0)), .cmp .ne (.call 33 [.var 20]) (.tup [.cst (.int 1), .var 20])]) [.ret (.cst (.bl false))] [], .ife (.bop false [.cmp .ne (.ix (.call 33 [.var 10]) (.cst (.int 1))) (.var 20), .cmp .ne (.bin .mul (.ix (.call 33 [.var 10]) (.cst (.int 0))) (.var 12)) (.var 19)]) [.ret (.cst (.bl false))] [], .ife (.bop false [.cmp .ne (.call 34 [.var 10, .var 4]) (.var 12), .no (.call 35 [.var 10, .var 4]), .cmp .ne (.call 34 [.var 20, .call 21 [.var 4]]) (.bin .sub (.cst (.int 0)) (.var 19)), .no (.call 65 [.var 10, .tup [.cst (.int 0), .cst (.int 0), .cst (.int 0)], .var 4])]) [.ret (.cst (.bl false))] []] [], .ife (.bop false [.cmp .ne (.call 35 [.var 10, .var 11]) (.cmp .ne (.heard 34 [.var 10, .var 11]) (.lst [.cst (.str [99, 97, 110, 32, 110, 111, 116]), .cst (.bl true)])), .bop true [.call 35 [.var 10, .var 11], .no (.call 43 [.var 10, .var 11])]]) [.ret (.cst (.bl false))] [], .set 6 (.call 28 [.var 10, .var 11]), .set 7 (.call 78 [.ix (.var 10) (.cst (.int 0)), .ix (.var 10) (.cst (.int 1))]), .ife (.bop false [.no (.call 38 [.var 10, .var 6]), .cmp .ne (.call 39 [.var 10]) (.call 39 [.var 6]), .no (.call 38 [.call 39 [.var 10], .var 10]), .cmp .ne (.call 19 [.call 26 [.var 11, .var 10], .var 10]) (.var 6), .no (.call 42 [.var 10, .var 6, .var 11])]) [.ret (.cst (.bl false))] [], .set 8 (.tup [.ix (.var 10) (.cst (.int 0)), .ix (.var 10) (.cst (.int 1)), .bin .add (.ix (.var 10) (.cst (.int 2))) (.callS 81 [.var 1, .cst (.int 9)])]), .set 9 (.ife (.cmp .gt (.var 7) (.cst (.int 0))) (.cmp .eq (.bin .mod (.bin .sub (.ix (.var 8) (.cst (.int 2))) (.ix (.var 10) (.cst (.int 2)))) (.var 7)) (.cst (.int 0))) (.cmp .eq (.var 8) (.var 10))), .ife (.bop false [.cmp .ne (.call 38 [.var 10, .var 8]) (.var 9), .cmp .eq (.cmp .eq (.heard 41 [.var 10, .var 8]) (.lst [.cst (.str [99, 97, 110, 32, 110, 111, 116]), .cst (.bl true)])) (.var 9), .cmp .ne (.call 38 [.var 10, .var 11]) (.call 38 [.var 11, .var 10])]) [.ret (.cst (.bl false))] [], .ife (.var 9) [.set 16 (.call 41 [.var 10, .var 8]), .tset (.tp [.nm 20, .nm 21]) (.call 66 [.var 10, .var 8]), .ife (.bop false [.cmp .ne (.call 28 [.var 10, .var 16]) (.var 8), .cmp .ne (.ix (.var 16) (.cst (.int 2))) (.cst (.int 0)), .cmp .ne (.var 20) (.var 16), .no (.call 42 [.var 10, .var 8, .var 16]), .cmp .ne (.call 71 [.call 72 [.var 16], .var 10]) (.var 8)]) [.ret (.cst (.bl false))] [], .set 17 (.call 44 [.var 10, .bin .sub (.ix (.var 8) (.cst (.int 2))) (.ix (.var 10) (.cst (.int 2)))]), .ife (.bop false [.cmp .ne (.var 17) (.sl (.var 16) none (some (.cst (.int 2)))), .no (.call 84 [.var 21, .tup [.cst (.int 0), .cst (.int 0), .cst (.int 1)]])]) [.ret (.cst (.bl false))] [], .set 18 (.callS 76 [.var 1, .call 85 [.var 21]]), .ife (.bop false [.cmp .ne (.call 28 [.var 10, .var 18]) (.var 10), .cmp .ne (.call 28 [.var 10, .call 19 [.var 16, .var 18]]) (.var 8)]) [.ret (.cst (.bl false))] []] [], .ife (.bop false [.cmp .ne (.call 67 [.var 10, .call 19 [.var 10, .call 80 [.var 11, .cst (.int 2)]]]) (.var 11), .cmp .eq (.cmp .eq (.heard 67 [.var 10, .var 11]) (.lst [.cst (.str [99, 97, 110, 32, 110, 111, 116]), .cst (.bl true)])) (.call 30 [.call 19 [.call 21 [.var 10], .var 11], .cst (.int 2)])]) [.ret (.cst (.bl false))] [], .ife (.bop false [.cmp .notin (.ix (.call 63 [.var 10, .tup [.cst (.int 0), .cst (.int 0), .cst (.int 0)], .var 4]) (.cst (.int 0))) (.tup [.cst (.str [108, 105, 110, 101]), .cst (.str [97, 108, 108])]), .bop true [.cmp .eq (.var 10) (.tup [.cst (.int 0), .cst (.int 0), .cst (.int 0)]), .cmp .ne (.call 63 [.var 10, .var 10, .var 10]) (.tup [.cst (.str [97, 108, 108])])]]) [.ret (.cst (.bl false))] []], .ret (.cst (.bl true))]⟩
def fs : List Fn := [f0, f1, f2, f3, f4, f5, f6, f7, f8, f9, f10, f11, f12, f13, f14, f15, f16, f17, f18, f19, f20, f21, f22, f23, f24, f25, f26, f27, f28, f29, f30, f31, f32, f33, f34, f35, f36, f37, f38, f39, f40, f41, f42, f43, f44, f45, f46, f47, f48, f49, f50, f51, f52, f53, f54, f55, f56, f57, f58, f59, f60, f61, f62, f63, f64, f65, f66, f67, f68, f69, f70, f71, f72, f73, f74, f75, f76, f77, f78, f79, f80, f81, f82, f83, f84, f85, f86, f87]
def G : List PV := [.tup [.int 0, .int 0, .int 0], .tup [.non, .non, .int 0], .str [110, 111, 110, 101], .str [111, 110, 101], .str [97, 108, 108], .str [108, 105, 110, 101], .tup [.int 1, .int 0, .int 0], .tup [.int 0, .int 1, .int 0]]
end A71

set_option maxRecDepth 100000
namespace A71
open PySem PySem.Spec PyProof.Rows L2 Py
abbrev top (i : Nat) : Stmt := PySem.Challenge.pw_arearoutes_k71_across_roots_kin_and_powe.main.body.getD i (.Pass ⟨0, 0, 0, 0⟩)
def d0 : Dfn := ⟨"is_number", "is_number", "is_number", defArgs (top 4), ["thing"], ["thing"], defBody (top 4), defScope (top 4), f0⟩
def d1 : Dfn := ⟨"is_from", "is_from", "is_from", defArgs (top 5), ["thing", "least"], ["thing", "least"], defBody (top 5), defScope (top 5), f1⟩
def d2 : Dfn := ⟨"is_long", "is_long", "is_long", defArgs (top 6), ["thing", "length"], ["thing", "length"], defBody (top 6), defScope (top 6), f2⟩
def d3 : Dfn := ⟨"tupled", "tupled", "tupled", defArgs (top 7), ["value"], ["value", "own"], defBody (top 7), defScope (top 7), f3⟩
def d4 : Dfn := ⟨"are_numbers", "are_numbers", "are_numbers", defArgs (top 8), ["thing"], ["thing", "own"], defBody (top 8), defScope (top 8), f4⟩
def d5 : Dfn := ⟨"are_from", "are_from", "are_from", defArgs (top 9), ["thing", "least"], ["thing", "least", "own"], defBody (top 9), defScope (top 9), f5⟩
def d6 : Dfn := ⟨"is_row_of", "is_row_of", "is_row_of", defArgs (top 10), ["thing", "many", "least"], ["thing", "many", "least"], defBody (top 10), defScope (top 10), f6⟩
def d7 : Dfn := ⟨"common", "common", "common", defArgs (top 11), ["one", "other"], ["one", "other"], defBody (top 11), defScope (top 11), f7⟩
def d8 : Dfn := ⟨"sure_number", "sure_number", "sure_number", defArgs (top 12), ["value"], ["value"], defBody (top 12), defScope (top 12), f8⟩
def d9 : Dfn := ⟨"sure_from", "sure_from", "sure_from", defArgs (top 13), ["value", "least"], ["value", "least"], defBody (top 13), defScope (top 13), f9⟩
def d10 : Dfn := ⟨"extended", "extended", "extended", defArgs (top 14), ["one", "other"], ["one", "other", "first", "second", "times", "own", "near", "far"], defBody (top 14), defScope (top 14), f10⟩
def d11 : Dfn := ⟨"pairs_of", "pairs_of", "pairs_of", defArgs (top 15), ["number"], ["number"], defBody (top 15), defScope (top 15), f11⟩
def d12 : Dfn := ⟨"is_triple", "is_triple", "is_triple", defArgs (top 16), ["thing"], ["thing"], defBody (top 16), defScope (top 16), f12⟩
def d13 : Dfn := ⟨"rest", "rest", "rest", defArgs (top 17), ["number", "many"], ["number", "many"], defBody (top 17), defScope (top 17), f13⟩
def d14 : Dfn := ⟨"divides", "divides", "divides", defArgs (top 18), ["many", "number"], ["many", "number"], defBody (top 18), defScope (top 18), f14⟩
def d15 : Dfn := ⟨"is_deed", "is_deed", "is_deed", defArgs (top 21), ["thing"], ["thing"], defBody (top 21), defScope (top 21), f15⟩
def d16 : Dfn := ⟨"sure_deed", "sure_deed", "sure_deed", defArgs (top 22), ["value"], ["value", "own"], defBody (top 22), defScope (top 22), f16⟩
def d17 : Dfn := ⟨"sure_deeds", "sure_deeds", "sure_deeds", defArgs (top 23), ["value"], ["value", "own", "deed"], defBody (top 23), defScope (top 23), f17⟩
def d18 : Dfn := ⟨"joined", "joined", "joined", defArgs (top 24), ["one", "other"], ["one", "other"], defBody (top 24), defScope (top 24), f18⟩
def d19 : Dfn := ⟨"product", "product", "product", defArgs (top 25), ["one", "other"], ["one", "other", "near", "far"], defBody (top 25), defScope (top 25), f19⟩
def d20 : Dfn := ⟨"undone_in", "undone_in", "undone_in", defArgs (top 26), ["deed"], ["deed"], defBody (top 26), defScope (top 26), f20⟩
def d21 : Dfn := ⟨"undone", "undone", "undone", defArgs (top 27), ["deed"], ["deed"], defBody (top 27), defScope (top 27), f21⟩
def d22 : Dfn := ⟨"times_in", "times_in", "times_in", defArgs (top 28), ["deed", "many"], ["deed", "many"], defBody (top 28), defScope (top 28), f22⟩
def d23 : Dfn := ⟨"repeated", "repeated", "repeated", defArgs (top 29), ["deed", "many"], ["deed", "many", "own", "number"], defBody (top 29), defScope (top 29), f23⟩
def d24 : Dfn := ⟨"crossed", "crossed", "crossed", defArgs (top 30), ["one", "other"], ["one", "other"], defBody (top 30), defScope (top 30), f24⟩
def d25 : Dfn := ⟨"round_trip_in", "round_trip_in", "round_trip_in", defArgs (top 31), ["one", "other"], ["one", "other"], defBody (top 31), defScope (top 31), f25⟩
def d26 : Dfn := ⟨"round_trip", "round_trip", "round_trip", defArgs (top 32), ["one", "other"], ["one", "other", "near", "far"], defBody (top 32), defScope (top 32), f26⟩
def d27 : Dfn := ⟨"led_by_in", "led_by_in", "led_by_in", defArgs (top 33), ["deed", "other"], ["deed", "other"], defBody (top 33), defScope (top 33), f27⟩
def d28 : Dfn := ⟨"led_by", "led_by", "led_by", defArgs (top 34), ["deed", "other"], ["deed", "other", "own", "far"], defBody (top 34), defScope (top 34), f28⟩
def d29 : Dfn := ⟨"root_in", "root_in", "root_in", defArgs (top 36), ["deed", "many"], ["deed", "many", "left", "x", "y", "area", "wide", "high"], defBody (top 36), defScope (top 36), f29⟩
def d30 : Dfn := ⟨"has_root", "has_root", "has_root", defArgs (top 37), ["deed", "many"], ["deed", "many", "own", "number"], defBody (top 37), defScope (top 37), f30⟩
def d31 : Dfn := ⟨"root_of", "root_of", "root_of", defArgs (top 38), ["deed", "many"], ["deed", "many", "found", "own", "number"], defBody (top 38), defScope (top 38), f31⟩
def d32 : Dfn := ⟨"most_times", "most_times", "most_times", defArgs (top 39), ["deed"], ["deed", "x", "y", "area", "shared", "tilt"], defBody (top 39), defScope (top 39), f32⟩
def d33 : Dfn := ⟨"greatest_root", "greatest_root", "greatest_root", defArgs (top 40), ["deed"], ["deed", "own", "many"], defBody (top 40), defScope (top 40), f33⟩
def d34 : Dfn := ⟨"times_to", "times_to", "times_to", defArgs (top 41), ["deed", "goal"], ["deed", "goal", "place", "own", "far", "many"], defBody (top 41), defScope (top 41), f34⟩
def d35 : Dfn := ⟨"is_made_by", "is_made_by", "is_made_by", defArgs (top 42), ["deed", "goal"], ["deed", "goal"], defBody (top 42), defScope (top 42), f35⟩
def d36 : Dfn := ⟨"reach", "reach", "reach", defArgs (top 43), ["deed"], ["deed"], defBody (top 43), defScope (top 43), f36⟩
def d37 : Dfn := ⟨"are_kin_in", "are_kin_in", "are_kin_in", defArgs (top 44), ["one", "other"], ["one", "other"], defBody (top 44), defScope (top 44), f37⟩
def d38 : Dfn := ⟨"are_kin", "are_kin", "are_kin", defArgs (top 45), ["one", "other"], ["one", "other", "near", "far"], defBody (top 45), defScope (top 45), f38⟩
def d39 : Dfn := ⟨"least_kin", "least_kin", "least_kin", defArgs (top 46), ["deed"], ["deed", "x", "y", "area"], defBody (top 46), defScope (top 46), f39⟩
def d40 : Dfn := ⟨"span_by", "span_by", "span_by", defArgs (top 47), ["x", "y", "goal"], ["x", "y", "goal", "times", "middles", "found", "middle", "least", "shared", "first", "second", "p", "q", "wide", "high", "lap"], defBody (top 47), defScope (top 47), f40⟩
def d41 : Dfn := ⟨"leading", "leading", "leading", defArgs (top 48), ["one", "other"], ["one", "other", "near", "far", "p", "q"], defBody (top 48), defScope (top 48), f41⟩
def d42 : Dfn := ⟨"is_leading", "is_leading", "is_leading", defArgs (top 49), ["one", "other", "thing"], ["one", "other", "thing", "near", "far"], defBody (top 49), defScope (top 49), f42⟩
def d43 : Dfn := ⟨"do_commute", "do_commute", "do_commute", defArgs (top 50), ["one", "other"], ["one", "other", "near", "far"], defBody (top 50), defScope (top 50), f43⟩
def d44 : Dfn := ⟨"trips_for", "trips_for", "trips_for", defArgs (top 51), ["deed", "goal"], ["deed", "goal", "own", "area"], defBody (top 51), defScope (top 51), f44⟩
def d45 : Dfn := ⟨"exchanged", "exchanged", "exchanged", defArgs (top 54), ["known", "own", "place"], ["known", "own", "place", "times"], defBody (top 54), defScope (top 54), f45⟩
def d46 : Dfn := ⟨"plain_form", "plain_form", "plain_form", defArgs (top 55), ["first", "second", "centre"], ["first", "second", "centre"], defBody (top 55), defScope (top 55), f46⟩
def d47 : Dfn := ⟨"with_deed", "with_deed", "with_deed", defArgs (top 56), ["club", "deed"], ["club", "deed", "own", "centre", "first", "second"], defBody (top 56), defScope (top 56), f47⟩
def d48 : Dfn := ⟨"made_by", "made_by", "made_by", defArgs (top 57), ["deeds"], ["deeds", "found", "deed"], defBody (top 57), defScope (top 57), f48⟩
def d49 : Dfn := ⟨"kernel_of", "kernel_of", "kernel_of", defArgs (top 59), ["first", "second", "many"], ["first", "second", "many", "inner", "high", "wide", "times", "shared"], defBody (top 59), defScope (top 59), f49⟩
def d50 : Dfn := ⟨"combined", "combined", "combined", defArgs (top 60), ["rows", "pair"], ["rows", "pair", "one", "other"], defBody (top 60), defScope (top 60), f50⟩
def d51 : Dfn := ⟨"lines_kept", "lines_kept", "lines_kept", defArgs (top 61), ["end", "gap", "many"], ["end", "gap", "many", "times"], defBody (top 61), defScope (top 61), f51⟩
def d52 : Dfn := ⟨"keeping_pairs", "keeping_pairs", "keeping_pairs", defArgs (top 62), ["ends", "many"], ["ends", "many", "found", "x", "y", "worth", "p", "q"], defBody (top 62), defScope (top 62), f52⟩
def d53 : Dfn := ⟨"kept_by", "kept_by", "kept_by", defArgs (top 63), ["rows", "worth", "many"], ["rows", "worth", "many", "pair"], defBody (top 63), defScope (top 63), f53⟩
def d54 : Dfn := ⟨"commuting_with", "commuting_with", "commuting_with", defArgs (top 64), ["deeds"], ["deeds", "own", "pairs", "deed", "pair"], defBody (top 64), defScope (top 64), f54⟩
def d55 : Dfn := ⟨"tilt", "tilt", "tilt", defArgs (top 70), ["deed"], ["deed"], defBody (top 70), defScope (top 70), f55⟩
def d56 : Dfn := ⟨"crossing", "crossing", "crossing", defArgs (top 71), ["one", "other", "goal"], ["one", "other", "goal", "turn", "first", "second", "many", "times"], defBody (top 71), defScope (top 71), f56⟩
def d57 : Dfn := ⟨"rows_for", "rows_for", "rows_for", defArgs (top 72), ["one", "other", "goal"], ["one", "other", "goal", "found", "place"], defBody (top 72), defScope (top 72), f57⟩
def d58 : Dfn := ⟨"along_line", "along_line", "along_line", defArgs (top 73), ["rows"], ["rows", "first", "row", "turn"], defBody (top 73), defScope (top 73), f58⟩
def d59 : Dfn := ⟨"one_pair", "one_pair", "one_pair", defArgs (top 74), ["rows", "first", "other"], ["rows", "first", "other", "turn", "one", "two", "many", "times", "row"], defBody (top 74), defScope (top 74), f59⟩
def d60 : Dfn := ⟨"one_line", "one_line", "one_line", defArgs (top 75), ["rows", "first"], ["rows", "first", "step", "times", "shared", "near", "far", "row"], defBody (top 75), defScope (top 75), f60⟩
def d61 : Dfn := ⟨"plain_step", "plain_step", "plain_step", defArgs (top 76), ["one", "other"], ["one", "other"], defBody (top 76), defScope (top 76), f61⟩
def d62 : Dfn := ⟨"plain_start", "plain_start", "plain_start", defArgs (top 77), ["pair", "step"], ["pair", "step", "place", "times"], defBody (top 77), defScope (top 77), f62⟩
def d63 : Dfn := ⟨"pairs_for", "pairs_for", "pairs_for", defArgs (top 78), ["one", "other", "goal"], ["one", "other", "goal", "near", "far", "own"], defBody (top 78), defScope (top 78), f63⟩
def d64 : Dfn := ⟨"lies_along", "lies_along", "lies_along", defArgs (top 79), ["one", "other", "goal"], ["one", "other", "goal"], defBody (top 79), defScope (top 79), f64⟩
def d65 : Dfn := ⟨"can_make", "can_make", "can_make", defArgs (top 80), ["one", "other", "goal"], ["one", "other", "goal"], defBody (top 80), defScope (top 80), f65⟩
def d66 : Dfn := ⟨"all_leading", "all_leading", "all_leading", defArgs (top 81), ["one", "other"], ["one", "other", "near", "far"], defBody (top 81), defScope (top 81), f66⟩
def d67 : Dfn := ⟨"half_way", "half_way", "half_way", defArgs (top 82), ["one", "other"], ["one", "other", "near", "far", "x", "y", "area"], defBody (top 82), defScope (top 82), f67⟩
def d68 : Dfn := ⟨"is_map", "is_map", "is_map", defArgs (top 86), ["thing"], ["thing", "own"], defBody (top 86), defScope (top 86), f68⟩
def d69 : Dfn := ⟨"sure_map", "sure_map", "sure_map", defArgs (top 87), ["value"], ["value", "own"], defBody (top 87), defScope (top 87), f69⟩
def d70 : Dfn := ⟨"led_in", "led_in", "led_in", defArgs (top 88), ["own", "deed"], ["own", "deed", "found", "right", "up", "x", "y", "area"], defBody (top 88), defScope (top 88), f70⟩
def d71 : Dfn := ⟨"led_to", "led_to", "led_to", defArgs (top 89), ["chart", "deed"], ["chart", "deed", "own", "goal"], defBody (top 89), defScope (top 89), f71⟩
def d72 : Dfn := ⟨"inner_of", "inner_of", "inner_of", defArgs (top 90), ["deed"], ["deed", "own"], defBody (top 90), defScope (top 90), f72⟩
def d73 : Dfn := ⟨"_law_box", "_law_box", "_law_box", defArgs (top 92), ["script", "k"], ["script", "k", "bit_so"], defBody (top 92), defScope (top 92), f73⟩
def d74 : Dfn := ⟨"_law_take", "_law_take", "_law_take", defArgs (top 93), ["tin", "below_so"], ["tin", "below_so", "once_so", "wide_so", "twice_so", "drawn_so"], defBody (top 93), defScope (top 93), f74⟩
def d75 : Dfn := ⟨"_law_cells", "_law_cells", "_law_cells", defArgs (top 94), ["script", "most_so"], ["script", "most_so", "cells_so", "k", "bit_so", "at_so"], defBody (top 94), defScope (top 94), f75⟩
def d76 : Dfn := ⟨"_law_of", "_law_of", "_law_of", defArgs (top 95), ["tin", "goods_so"], ["tin", "goods_so"], defBody (top 95), defScope (top 95), f76⟩
def d77 : Dfn := ⟨"_law_same", "_law_same", "_law_same", defArgs (top 96), ["got", "due"], ["got", "due", "mine", "its"], defBody (top 96), defScope (top 96), f77⟩
def d78 : Dfn := ⟨"_law_gcd", "_law_gcd", "_law_gcd", defArgs (top 97), ["one", "two"], ["one", "two", "lap"], defBody (top 97), defScope (top 97), f78⟩
def d79 : Dfn := ⟨"_law_join", "_law_join", "_law_join", defArgs (top 98), ["one", "two"], ["one", "two"], defBody (top 98), defScope (top 98), f79⟩
def d80 : Dfn := ⟨"_law_times", "_law_times", "_law_times", defArgs (top 99), ["one", "k"], ["one", "k"], defBody (top 99), defScope (top 99), f80⟩
def d81 : Dfn := ⟨"_law_whole", "_law_whole", "_law_whole", defArgs (top 100), ["tin", "top_so"], ["tin", "top_so"], defBody (top 100), defScope (top 100), f81⟩
def d82 : Dfn := ⟨"_law_deed", "_law_deed", "_law_deed", defArgs (top 101), ["tin", "top_so"], ["tin", "top_so"], defBody (top 101), defScope (top 101), f82⟩
def d83 : Dfn := ⟨"_law_parts", "_law_parts", "_law_parts", defArgs (top 102), ["club_so", "deed_so"], ["club_so", "deed_so", "k", "own", "found", "row_so", "many_so"], defBody (top 102), defScope (top 102), f83⟩
def d84 : Dfn := ⟨"_law_has", "_law_has", "_law_has", defArgs (top 103), ["club_so", "deed_so"], ["club_so", "deed_so"], defBody (top 103), defScope (top 103), f84⟩
def d85 : Dfn := ⟨"_law_makers", "_law_makers", "_law_makers", defArgs (top 104), ["club_so"], ["club_so", "own"], defBody (top 104), defScope (top 104), f85⟩
def d86 : Dfn := ⟨"_law_heard", "_law_heard", "_law_heard", defArgs (top 105), ["own", "one", "two"], ["own", "one", "two", "told_so", "caught"], defBody (top 105), defScope (top 105), f86⟩
def d87 : Dfn := ⟨"law", "law", "law", defArgs (top 106), ["script"], ["script", "tin", "lap", "top_so", "power_so", "fits", "far", "part_so", "other_so", "kin", "one", "two", "k", "x", "y", "z", "lead_so", "trip_so", "own", "often_so", "base_so", "room_so"], defBody (top 106), defScope (top 106), f87⟩
def ds : List Dfn := [d0, d1, d2, d3, d4, d5, d6, d7, d8, d9, d10, d11, d12, d13, d14, d15, d16, d17, d18, d19, d20, d21, d22, d23, d24, d25, d26, d27, d28, d29, d30, d31, d32, d33, d34, d35, d36, d37, d38, d39, d40, d41, d42, d43, d44, d45, d46, d47, d48, d49, d50, d51, d52, d53, d54, d55, d56, d57, d58, d59, d60, d61, d62, d63, d64, d65, d66, d67, d68, d69, d70, d71, d72, d73, d74, d75, d76, d77, d78, d79, d80, d81, d82, d83, d84, d85, d86, d87]
theorem ds_fs : ds.map Dfn.fn = fs := rfl
def T : Tb := ⟨[(("is_number" : Str), 1), (("is_from" : Str), 2), (("is_long" : Str), 2), (("tupled" : Str), 1), (("are_numbers" : Str), 1), (("are_from" : Str), 2), (("is_row_of" : Str), 3), (("common" : Str), 2), (("sure_number" : Str), 1), (("sure_from" : Str), 2), (("extended" : Str), 2), (("pairs_of" : Str), 1), (("is_triple" : Str), 1), (("rest" : Str), 2), (("divides" : Str), 2), (("is_deed" : Str), 1), (("sure_deed" : Str), 1), (("sure_deeds" : Str), 1), (("joined" : Str), 2), (("product" : Str), 2), (("undone_in" : Str), 1), (("undone" : Str), 1), (("times_in" : Str), 2), (("repeated" : Str), 2), (("crossed" : Str), 2), (("round_trip_in" : Str), 2), (("round_trip" : Str), 2), (("led_by_in" : Str), 2), (("led_by" : Str), 2), (("root_in" : Str), 2), (("has_root" : Str), 2), (("root_of" : Str), 2), (("most_times" : Str), 1), (("greatest_root" : Str), 1), (("times_to" : Str), 2), (("is_made_by" : Str), 2), (("reach" : Str), 1), (("are_kin_in" : Str), 2), (("are_kin" : Str), 2), (("least_kin" : Str), 1), (("span_by" : Str), 3), (("leading" : Str), 2), (("is_leading" : Str), 3), (("do_commute" : Str), 2), (("trips_for" : Str), 2), (("exchanged" : Str), 3), (("plain_form" : Str), 3), (("with_deed" : Str), 2), (("made_by" : Str), 1), (("kernel_of" : Str), 3), (("combined" : Str), 2), (("lines_kept" : Str), 3), (("keeping_pairs" : Str), 2), (("kept_by" : Str), 3), (("commuting_with" : Str), 1), (("tilt" : Str), 1), (("crossing" : Str), 3), (("rows_for" : Str), 3), (("along_line" : Str), 1), (("one_pair" : Str), 3), (("one_line" : Str), 2), (("plain_step" : Str), 2), (("plain_start" : Str), 2), (("pairs_for" : Str), 3), (("lies_along" : Str), 3), (("can_make" : Str), 3), (("all_leading" : Str), 2), (("half_way" : Str), 2), (("is_map" : Str), 1), (("sure_map" : Str), 1), (("led_in" : Str), 2), (("led_to" : Str), 2), (("inner_of" : Str), 1), (("_law_box" : Str), 2), (("_law_take" : Str), 2), (("_law_cells" : Str), 2), (("_law_of" : Str), 2), (("_law_same" : Str), 2), (("_law_gcd" : Str), 2), (("_law_join" : Str), 2), (("_law_times" : Str), 2), (("_law_whole" : Str), 2), (("_law_deed" : Str), 2), (("_law_parts" : Str), 2), (("_law_has" : Str), 2), (("_law_makers" : Str), 1), (("_law_heard" : Str), 3), (("law" : Str), 1)], [("NOTHING" : Str), ("EMPTY" : Str), ("NONE" : Str), ("ONE" : Str), ("ALL" : Str), ("LINE" : Str), ("RIGHT" : Str), ("UP" : Str)], [("isinstance" : Str), ("ValueError" : Str), ("int" : Str), ("bool" : Str), ("tuple" : Str), ("len" : Str), ("list" : Str), ("all" : Str), ("abs" : Str), ("zip" : Str), ("min" : Str), ("any" : Str), ("enumerate" : Str), ("str" : Str), ("range" : Str)], [], [("CanNot" : Str)], some ("_law_heard" : Str)⟩
end A71

set_option linter.all false
set_option maxRecDepth 100000
namespace Py
/-! ### what a call gives, its store dropped -/
def fnv (G : List PV) (T : List Fn) (w n i : Nat) (xs : List PV) : Option RV := (call G T w n i (xs.map .v) []).map (·.1)
/-- what a lent call gives to the caller -/
def lent (vs : List EV) : Option RV → Option EV
  | some rv => if (noCr rv && (!(vs.any isR) || noLr rv)) then some (ofR rv) else none
  | none => none
theorem callP_fnv {G : List PV} {T : List Fn} {w n f : Nat} {vs : List EV} {S : Store} : callP (call G T w n) f vs S = match mapO (rd S) vs with
    | some xs => (match noCs xs with
      | true => lent vs (fnv G T w n f xs)
      | false => none)
    | none => none := by
  unfold callP
  cases mapO (rd S) vs with
  | none => rfl
  | some xs =>
    cases e : noCs xs with
    | false => simp only [e]
    | true =>
      simp only [e, fnv]
      cases call G T w n f (xs.map .v) [] with
      | none => rfl
      | some p => rfl
theorem fnv_succ {G : List PV} {T : List Fn} {w n i : Nat} {xs : List PV} {F : Fn} (h : T[i]? = some F) : fnv G T w (n + 1) i xs = (run G (call G T w n) w F (xs.map .v) []).map (·.1) := by
  unfold fnv
  rw [call_run h]
class Bd (i : Int) (k : outParam Nat) : Prop where
  h : i.natAbs < 2 ^ k
instance Bd.add {i j : Int} {a b : Nat} [p : Bd i a] [q : Bd j b] : Bd (i + j) (max a b + 1) := ⟨by
  have h1 := Nat.pow_le_pow_right (n := 2) (by omega) (Nat.le_max_left a b)
  have h2 := Nat.pow_le_pow_right (n := 2) (by omega) (Nat.le_max_right a b)
  have := p.h
  have := q.h
  rw [Nat.pow_succ]
  omega⟩
instance Bd.neg {i : Int} {a : Nat} [p : Bd i a] : Bd (-i) a := ⟨by have := p.h; omega⟩
instance Bd.sub {i j : Int} {a b : Nat} [p : Bd i a] [q : Bd j b] : Bd (i - j) (max a b + 1) := ⟨by
  rw [Int.sub_eq_add_neg]
  exact Bd.add.h⟩
instance Bd.mul {i j : Int} {a b : Nat} [p : Bd i a] [q : Bd j b] : Bd (i * j) (a + b) := ⟨by
  rw [Int.natAbs_mul, Nat.pow_add]
  exact Nat.mul_lt_mul'' p.h q.h⟩
instance : Bd (0 : Int) 0 := ⟨by decide⟩
instance : Bd (1 : Int) 1 := ⟨by decide⟩
instance : Bd (2 : Int) 2 := ⟨by decide⟩
instance : Bd (3 : Int) 2 := ⟨by decide⟩
instance : Bd (4 : Int) 3 := ⟨by decide⟩
instance : Bd (5 : Int) 3 := ⟨by decide⟩
instance : Bd (6 : Int) 3 := ⟨by decide⟩
instance : Bd (7 : Int) 3 := ⟨by decide⟩
instance : Bd (8 : Int) 4 := ⟨by decide⟩
instance : Bd (9 : Int) 4 := ⟨by decide⟩
instance : Bd (10 : Int) 4 := ⟨by decide⟩
instance : Bd (11 : Int) 4 := ⟨by decide⟩
instance : Bd (12 : Int) 4 := ⟨by decide⟩
instance : Bd (20 : Int) 5 := ⟨by decide⟩
instance : Bd (24 : Int) 5 := ⟨by decide⟩
instance : Bd (100 : Int) 7 := ⟨by decide⟩
instance : Bd (1000 : Int) 10 := ⟨by decide⟩
theorem mulOk_bd {i j : Int} {a b : Nat} [p : Bd i a] [q : Bd j b] (h : a + b < 1000000) : mulOk i j = true := by
  unfold mulOk
  have h3 : i.natAbs.log2 + j.natAbs.log2 < 1000000 := by
    have e1 : i.natAbs.log2 ≤ a := by
      by_cases z : i.natAbs = 0
      · rw [z]; simp
      · exact Nat.le_of_lt ((Nat.log2_lt z).mpr p.h)
    have e2 : j.natAbs.log2 ≤ b := by
      by_cases z : j.natAbs = 0
      · rw [z]; simp
      · exact Nat.le_of_lt ((Nat.log2_lt z).mpr q.h)
    omega
  rw [show Nat.blt (Nat.log2 i.natAbs + Nat.log2 j.natAbs) 1000000 = true by rw [Nat.blt_eq]; exact h3]
  simp
end Py

set_option linter.all false
set_option maxRecDepth 100000
set_option maxHeartbeats 1000000
namespace Py
/-! ### what the laws' helpers do -/
structure Tin where
  a : Int
  b : Int
  c : Int
def Tin.pv (t : Tin) : PV := .lst [.int t.a, .int t.b, .int t.c]
structure Tin.Ok (k : Nat) (t : Tin) : Prop where
  b0 : 0 ≤ t.b
  b1 : t.b < 2 ^ 62
  c0 : 0 ≤ t.c
  c1 : t.c ≤ k
def takeF : Fn := ⟨2, 6, [.ife (.cmp .gt (.ix (.var 0) (.cst (.int 0))) (.cst (.int 0))) [.set 5 (.bin .mod (.bi .int [.ix (.var 0) (.cst (.int 0))]) (.var 1)), .seti 0 (.cst (.int 0)) (.bin .fdiv (.ix (.var 0) (.cst (.int 0))) (.var 1)), .ret (.var 5)] [], .seti 0 (.cst (.int 2)) (.bin .add (.ix (.var 0) (.cst (.int 2))) (.cst (.int 1))), .set 2 (.bin .mod (.bi .int [.bin .mul (.bin .add (.ix (.var 0) (.cst (.int 1))) (.bin .mul (.cst (.int 48271)) (.ix (.var 0) (.cst (.int 2))))) (.bin .add (.cst (.int 39373)) (.ix (.var 0) (.cst (.int 2))))]) (.cst (.int 2147483647))), .set 3 (.bin .add (.bin .mod (.bi .int [.var 2]) (.cst (.int 40009))) (.cst (.int 7))), .set 4 (.bin .mod (.bi .int [.bin .mul (.bin .add (.bin .add (.var 2) (.ix (.var 0) (.cst (.int 2)))) (.bin .fdiv (.ix (.var 0) (.cst (.int 1))) (.cst (.int 1000003)))) (.var 3)]) (.cst (.int 2147483629))), .ret (.bin .mod (.bi .int [.bin .fdiv (.bin .mod (.bi .int [.bin .add (.bin .mul (.var 4) (.cst (.int 48271))) (.var 2)]) (.cst (.int 2147483587))) (.cst (.int 64))]) (.var 1))]⟩
theorem fmod_nn (a : Int) {b : Int} (h : 0 < b) : 0 ≤ a.fmod b := by
  rw [Int.fmod_eq_emod_of_nonneg _ (Int.le_of_lt h)]
  exact Int.emod_nonneg _ (by omega)
theorem call_succ {G : List PV} {T : List Fn} {w n i : Nat} {vs : List EV} {S : Store} {F : Fn} (h : T[i]? = some F) : call G T w (n + 1) i vs S = run G (call G T w n) w F vs S := call_run h
section
variable {G : List PV} {T : List Fn} {w n : Nat}
theorem set_set {S : Store} {a : Nat} {x y : Cell} : (S.set a x).set a y = S.set a y := by simp
theorem get_set {S : Store} {a : Nat} {x y : Cell} (h : S[a]? = some y) : (S.set a x)[a]? = some x := by
  rw [List.getElem?_set_self]
  exact (List.getElem?_eq_some_iff.mp h).1
theorem mulOkR {i j : Int} (h : j.natAbs < 18446744073709551616) : mulOk i j = true := by
  unfold mulOk
  rw [show Nat.blt j.natAbs 18446744073709551616 = true by rw [Nat.blt_eq]; exact h]
  simp
theorem log2_small {m : Int} (h : m < 2 ^ 63) (h0 : 0 < m) : m.natAbs.log2 < 9000 := by
  have : m.natAbs.log2 < 63 := (Nat.log2_lt (by omega)).mpr (by omega)
  omega
theorem take_ok {i a k : Nat} {S : Store} {t : Tin} {m : Int} (hi : T[i]? = some takeF) (hS : S[a]? = some (.live t.pv)) (ok : t.Ok k) (hk : k < 2 ^ 40) (hm : 0 < m) (hm2 : m < 2 ^ 63) :
    ∃ (r : Int) (t' : Tin), call G T w (n + 1) i [.r a, .v (.int m)] S = some (.v (.int r), S.set a (.live t'.pv)) ∧ 0 ≤ r ∧ r < m ∧ t'.Ok (k + 1) := by
  rw [call_succ hi]
  have hl : Nat.blt m.natAbs.log2 9000 = true := by rw [Nat.blt_eq]; exact log2_small hm2 hm
  have hm0 : ¬ m = 0 := by omega
  obtain ⟨b0, b1, c0, c1⟩ := ok
  by_cases h : 0 < t.a
  · refine ⟨t.a.fmod m, ⟨t.a.fdiv m, t.b, t.c⟩, ?_, fmod_nn _ hm, Int.fmod_lt_of_pos _ hm, ⟨b0, b1, c0, by show t.c ≤ _; omega⟩⟩
    simp [run, takeF, exs, ex, hCons, hNil, hIfe, ev, evs, gCmp, gIx, gVar, rd, rdT, hS, Tin.pv, ixP, pyIx, toR, cmpop, cmpI, truth, h, hSet, hSeti, gBin, gBi, gCons, gNil, mapO, biF, binop, binI, hm0, hl, toE, stor, cellOf, setP, setL, hRet, fin]
  · have h1 : mulOk 48271 (t.c + 1) = true := by
      unfold mulOk
      rw [show Nat.blt (48271 : Int).natAbs 18446744073709551616 = true by decide]
      rfl
    have h2 : mulOk (t.b + 48271 * (t.c + 1)) (39373 + (t.c + 1)) = true := by
      unfold mulOk
      rw [show Nat.blt (39373 + (t.c + 1) : Int).natAbs 18446744073709551616 = true by rw [Nat.blt_eq]; omega]
      simp
    have h3 : ∀ u v : Int, mulOk u (v.fmod 40009 + 7) = true := fun u v => by
      unfold mulOk
      have := fmod_nn v (show (0 : Int) < 40009 by decide)
      have := Int.fmod_lt_of_pos v (show (0 : Int) < 40009 by decide)
      rw [show Nat.blt (v.fmod 40009 + 7 : Int).natAbs 18446744073709551616 = true by rw [Nat.blt_eq]; omega]
      simp
    have h4 : ∀ u : Int, mulOk u 48271 = true := fun u => by
      unfold mulOk
      rw [show Nat.blt (48271 : Int).natAbs 18446744073709551616 = true by decide]
      simp
    have g1 : ∀ v : Cell, (S.set a v)[a]? = some v := fun v => get_set hS
    have l1 : Nat.log2 1000003 < 9000 := by decide
    have l2 : Nat.log2 64 < 9000 := by decide
    obtain ⟨o, ho⟩ : ∃ o, o = ((t.b + 48271 * (t.c + 1)) * (39373 + (t.c + 1))).fmod 2147483647 := ⟨_, rfl⟩
    refine ⟨((((o + (t.c + 1) + t.b.fdiv 1000003) * (o.fmod 40009 + 7)).fmod 2147483629 * 48271 + o).fmod 2147483587 |>.fdiv 64).fmod m, ⟨t.a, t.b, t.c + 1⟩, ?_, fmod_nn _ hm, Int.fmod_lt_of_pos _ hm, ⟨b0, b1, by show 0 ≤ t.c + 1; omega, by show t.c + 1 ≤ _; omega⟩⟩
    simp [run, takeF, exs, ex, hCons, hNil, hIfe, ev, evs, gCmp, gIx, gVar, rd, rdT, hS, Tin.pv, ixP, pyIx, toR, cmpop, cmpI, truth, h, hSet, hSeti, gBin, gBi, gCons, gNil, mapO, biF, binop, binI, hm0, hl, toE, stor, cellOf, setP, setL, hRet, fin, h1, h2, h3, h4, g1, l1, l2, ho]
def ofF (t : Nat) : Fn := ⟨2, 2, [.ret (.ix (.var 1) (.callS t [.var 0, .bi .len [.var 1]]))]⟩
theorem ix_at {α : Type} {xs : List α} {r : Int} (h0 : 0 ≤ r) (h1 : r < xs.length) : ∃ x ∈ xs, pyIx xs.length r = some r.toNat ∧ xs[r.toNat]? = some x := by
  refine ⟨xs[r.toNat]'(by omega), List.getElem_mem _, ?_, List.getElem?_eq_getElem _⟩
  simp [pyIx, h0, h1]
theorem toR_noC {x : PV} (h : noC x = true) : toR x = .v x := by
  cases x <;> first | rfl | cases h
theorem of_ok {i j a k : Nat} {S : Store} {t : Tin} {xs : List PV} (hi : T[i]? = some (ofF j)) (hj : T[j]? = some takeF) (hS : S[a]? = some (.live t.pv)) (ok : t.Ok k) (hk : k < 2 ^ 40) (hx : 0 < xs.length) (hx2 : xs.length < 2 ^ 60) (hc : ∀ x ∈ xs, noC x = true) :
    ∃ (x : PV) (t' : Tin), call G T w (n + 2) i [.r a, .n (.lst xs)] S = some (.v x, S.set a (.live t'.pv)) ∧ x ∈ xs ∧ t'.Ok (k + 1) := by
  obtain ⟨r, t', e, r0, r1, ok'⟩ := take_ok (G := G) (w := w) (n := n) hj hS ok hk (m := xs.length) (by omega) (by omega)
  obtain ⟨x, hx, i1, i2⟩ := ix_at r0 r1
  refine ⟨x, t', ?_, hx, ok'⟩
  rw [call_succ hi]
  simp [run, ofF, exs, ex, hCons, hNil, hRet, ev, evs, gIx, gVar, gCallS, gBi, gCons, gNil, toE, rd, mapO, biF, e, ofR, ixP, i1, i2, toR_noC (hc x hx), fin]
theorem of_strok {i j a k : Nat} {S : Store} {t : Tin} {xs : List Nat} (hi : T[i]? = some (ofF j)) (hj : T[j]? = some takeF) (hS : S[a]? = some (.live t.pv)) (ok : t.Ok k) (hk : k < 2 ^ 40) (hx : 0 < xs.length) (hx2 : xs.length < 2 ^ 60) :
    ∃ (x : Nat) (t' : Tin), call G T w (n + 2) i [.r a, .v (.str xs)] S = some (.v (.str [x]), S.set a (.live t'.pv)) ∧ x ∈ xs ∧ t'.Ok (k + 1) := by
  obtain ⟨r, t', e, r0, r1, ok'⟩ := take_ok (G := G) (w := w) (n := n) hj hS ok hk (m := xs.length) (by omega) (by omega)
  obtain ⟨x, hx, i1, i2⟩ := ix_at r0 r1
  refine ⟨x, t', ?_, hx, ok'⟩
  rw [call_succ hi]
  simp [run, ofF, exs, ex, hCons, hNil, hRet, ev, evs, gIx, gVar, gCallS, gBi, gCons, gNil, toE, rd, mapO, biF, e, ofR, ixP, i1, i2, toR, fin]
def wholeF (t : Nat) : Fn := ⟨2, 2, [.ret (.ife (.cmp .lt (.var 1) (.bin .pow (.cst (.int 10)) (.cst (.int 8)))) (.bin .mul (.callS t [.var 0, .bin .add (.var 1) (.cst (.int 1))]) (.bin .sub (.cst (.int 1)) (.bin .mul (.cst (.int 2)) (.callS t [.var 0, .cst (.int 2)])))) (.bin .mul (.bin .sub (.callS t [.var 0, .bin .pow (.cst (.int 10)) (.cst (.int 8))]) (.bin .pow (.cst (.int 10)) (.cst (.int 7)))) (.bin .fdiv (.var 1) (.bin .pow (.cst (.int 10)) (.cst (.int 8))))))]⟩
theorem mulOkL {i j : Int} (h : i.natAbs < 18446744073709551616) : mulOk i j = true := by
  unfold mulOk
  rw [show Nat.blt i.natAbs 18446744073709551616 = true by rw [Nat.blt_eq]; exact h]
  rfl
theorem abs_mul_le {i j a b : Int} (h1 : -a ≤ i) (h2 : i ≤ a) (h3 : -b ≤ j) (h4 : j ≤ b) : -(a * b) ≤ i * j ∧ i * j ≤ a * b := by
  have e : (i * j).natAbs ≤ a.natAbs * b.natAbs := by
    rw [Int.natAbs_mul]
    exact Nat.mul_le_mul (by omega) (by omega)
  have e2 : (a * b) = ((a.natAbs * b.natAbs : Nat) : Int) := by
    rw [Int.natCast_mul, show ((a.natAbs : Nat) : Int) = a by omega, show ((b.natAbs : Nat) : Int) = b by omega]
  omega
theorem whole_ok {i j a k : Nat} {S : Store} {t : Tin} {m : Int} (hi : T[i]? = some (wholeF j)) (hj : T[j]? = some takeF) (hS : S[a]? = some (.live t.pv)) (ok : t.Ok k) (hk : k + 2 < 2 ^ 40) (h0 : 0 ≤ m) (h1 : m < 2 ^ 62) :
    ∃ (r : Int) (t' : Tin), call G T w (n + 2) i [.r a, .v (.int m)] S = some (.v (.int r), S.set a (.live t'.pv)) ∧ -m ≤ r ∧ r ≤ m ∧ t'.Ok (k + 2) := by
  by_cases h : m < 100000000
  · obtain ⟨r, t1, e1, r0, r1, ok1⟩ := take_ok (G := G) (w := w) (n := n) hj hS ok (by omega) (m := m + 1) (by omega) (by omega)
    obtain ⟨q, t2, e2, q0, q1, ok2⟩ := take_ok (G := G) (w := w) (n := n) hj (get_set hS) ok1 (by omega) (m := 2) (by omega) (by omega)
    have hm : mulOk r (1 - 2 * q) = true := mulOkR (by omega)
    have hm2 : mulOk 2 q = true := mulOkL (by decide)
    refine ⟨r * (1 - 2 * q), t2, ?_, ?_, ?_, ok2⟩
    · rw [call_succ hi]
      simp [run, wholeF, exs, ex, hCons, hNil, hRet, ev, evs, gIfe, gCmp, gBin, gVar, gCallS, gCons, gNil, toE, rd, rdT, binop, binI, cmpop, cmpI, h, truth, e1, e2, ofR, hm, hm2, fin]
    · have : q = 0 ∨ q = 1 := by omega
      rcases this with rfl | rfl <;> simp <;> omega
    · have : q = 0 ∨ q = 1 := by omega
      rcases this with rfl | rfl <;> simp <;> omega
  · obtain ⟨r, t1, e1, r0, r1, ok1⟩ := take_ok (G := G) (w := w) (n := n) hj hS ok (by omega) (m := 100000000) (by omega) (by omega)
    have hl : Nat.log2 100000000 < 9000 := by decide
    have hm : mulOk (r - 10000000) (m.fdiv 100000000) = true := mulOkL (by omega)
    refine ⟨(r - 10000000) * m.fdiv 100000000, t1, ?_, ?_, ?_, ⟨ok1.b0, ok1.b1, ok1.c0, by have := ok1.c1; omega⟩⟩
    · rw [call_succ hi]
      simp [run, wholeF, exs, ex, hCons, hNil, hRet, ev, evs, gIfe, gCmp, gBin, gVar, gCallS, gCons, gNil, toE, rd, rdT, binop, binI, cmpop, cmpI, h, truth, e1, ofR, hm, hl, fin]
    all_goals
      have d1 := Int.mul_fdiv_add_fmod m 100000000
      have d2 := fmod_nn m (show (0 : Int) < 100000000 by decide)
      have d3 := Int.fmod_lt_of_pos m (show (0 : Int) < 100000000 by decide)
      have d4 := abs_mul_le (i := r - 10000000) (j := m.fdiv 100000000) (a := 100000000) (b := m.fdiv 100000000) (by omega) (by omega) (by omega) (by omega)
      omega
def deedF (t : Nat) : Fn := ⟨2, 2, [.ret (.tup [.callS t [.var 0, .var 1], .callS t [.var 0, .var 1], .callS t [.var 0, .var 1]])]⟩
def dpv (x y z : Int) : PV := .tup [.int x, .int y, .int z]
theorem deed_ok {i j l a k : Nat} {S : Store} {t : Tin} {m : Int} (hi : T[i]? = some (deedF j)) (hj : T[j]? = some (wholeF l)) (hl : T[l]? = some takeF) (hS : S[a]? = some (.live t.pv)) (ok : t.Ok k) (hk : k + 6 < 2 ^ 40) (h0 : 0 ≤ m) (h1 : m < 2 ^ 62) :
    ∃ (x y z : Int) (t' : Tin), call G T w (n + 3) i [.r a, .v (.int m)] S = some (.v (.tup [.int x, .int y, .int z]), S.set a (.live t'.pv)) ∧ (-m ≤ x ∧ x ≤ m) ∧ (-m ≤ y ∧ y ≤ m) ∧ (-m ≤ z ∧ z ≤ m) ∧ t'.Ok (k + 6) := by
  obtain ⟨x, t1, e1, x0, x1, ok1⟩ := whole_ok (G := G) (w := w) (n := n) hj hl hS ok (by omega) h0 h1
  obtain ⟨y, t2, e2, y0, y1, ok2⟩ := whole_ok (G := G) (w := w) (n := n) hj hl (get_set hS) ok1 (by omega) h0 h1
  rw [set_set] at e2
  obtain ⟨z, t3, e3, z0, z1, ok3⟩ := whole_ok (G := G) (w := w) (n := n) hj hl (get_set hS) ok2 (by omega) h0 h1
  rw [set_set] at e3
  refine ⟨x, y, z, t3, ?_, ⟨x0, x1⟩, ⟨y0, y1⟩, ⟨z0, z1⟩, ok3⟩
  rw [call_succ hi]
  simp [run, deedF, exs, ex, hCons, hNil, hRet, ev, evs, gTup, gVar, gCallS, gCons, gNil, toE, e1, e2, e3, ofR, mapO, stor, line, fin]
end
end Py

set_option linter.all false
set_option maxRecDepth 100000
set_option maxHeartbeats 1000000
namespace Py
/-! ### plain trees: alike to themselves -/
mutual
def pl : PV → Bool
  | .non => true
  | .bl _ => true
  | .int _ => true
  | .str _ => true
  | .tup xs => pls xs
  | .lst xs => pls xs
  | _ => false
def pls : List PV → Bool
  | [] => true
  | x :: xs => pl x && pls xs
end
mutual
theorem pl_noC : ∀ x : PV, pl x = true → noC x = true
  | .non, _ => rfl
  | .bl _, _ => rfl
  | .int _, _ => rfl
  | .str _, _ => rfl
  | .tup xs, h => by
    simp only [pl] at h
    simpa [noC] using pls_noC xs h
  | .lst xs, h => by
    simp only [pl] at h
    simpa [noC] using pls_noC xs h
  | .dic _ _ _, h => by cases h
  | .scr _, h => by cases h
  | .cel _, h => by cases h
theorem pls_noC : ∀ xs : List PV, pls xs = true → noCs xs = true
  | [], _ => rfl
  | x :: xs, h => by
    simp only [pls, Bool.and_eq_true] at h
    simp [noCs, pl_noC x h.1, pls_noC xs h.2]
end
mutual
theorem eqP_rfl : ∀ x : PV, pl x = true → eqP x x = true
  | .non, _ => by simp [eqP]
  | .bl _, _ => by simp [eqP]
  | .int _, _ => by simp [eqP]
  | .str _, _ => by simp [eqP]
  | .tup xs, h => by
    simp only [pl] at h
    simpa [eqP] using eqPs_rfl xs h
  | .lst xs, h => by
    simp only [pl] at h
    simpa [eqP] using eqPs_rfl xs h
  | .dic _ _ _, h => by cases h
  | .scr _, h => by cases h
  | .cel _, h => by cases h
theorem eqPs_rfl : ∀ xs : List PV, pls xs = true → eqPs xs xs = true
  | [], _ => by simp [eqPs]
  | x :: xs, h => by
    simp only [pls, Bool.and_eq_true] at h
    simp [eqPs, eqP_rfl x h.1, eqPs_rfl xs h.2]
end
def sameF (i : Nat) : Fn := ⟨2, 4, [.ife (.isi (.var 1) [.list, .tuple]) [.ife (.bop false [.cmp .ne (.isi (.var 0) [.list]) (.isi (.var 1) [.list]), .cmp .ne (.isi (.var 0) [.tuple]) (.isi (.var 1) [.tuple])]) [.ret (.cst (.bl false))] [], .ret (.bop true [.cmp .eq (.bi .len [.var 0]) (.bi .len [.var 1]), .bi .all [.comp [2, 3] (.tp [.nm 2, .nm 3]) (.zip (.var 0) (.var 1)) none (.call i [.var 2, .var 3])]])] [], .ife (.cmp .is (.var 1) (.cst (.non))) [.ret (.cmp .is (.var 0) (.cst (.non)))] [], .ife (.isi (.var 1) [.bool, .str]) [.ret (.bop true [.cmp .eq (.isi (.var 0) [.bool]) (.isi (.var 1) [.bool]), .cmp .eq (.isi (.var 0) [.str]) (.isi (.var 1) [.str]), .cmp .eq (.var 0) (.var 1)])] [], .ret (.bop true [.isi (.var 0) [.int], .no (.isi (.var 0) [.bool]), .cmp .eq (.var 0) (.var 1)])]⟩
section
variable {G : List PV} {T : List Fn} {w : Nat}
theorem noCs_two {x : PV} (h : pl x = true) : noCs [x, x] = true := by simp [noCs, pl_noC x h]
/-- the walk over the pairs -/
theorem same_comp {C : Ora} {i : Nat} {E : Env} (hE : E.length = 4) : ∀ (xs : List PV), (∀ x ∈ xs, pl x = true ∧ ∃ S', C i [.v x, .v x] [] = some (.v (.bl true), S')) →
    ∀ S, compL (gStep E [2, 3] (.tp [.nm 2, .nm 3]) none (ev G C (.call i [.var 2, .var 3]))) (zipL xs xs) S = some (List.replicate xs.length (.bl true), S)
  | [], _, S => rfl
  | x :: xs, h, S => by
    obtain ⟨hp, S', e⟩ := h x (List.mem_cons_self ..)
    have ih := same_comp hE xs (fun y hy => h y (List.mem_cons_of_mem _ hy)) S
    have st : gStep E [2, 3] (.tp [.nm 2, .nm 3]) none (ev G C (.call i [.var 2, .var 3])) (.tup [x, x]) S = some (some (.bl true), S) := by
      match E, hE with
      | [a, b, c, d], _ =>
        simp [gStep, asg, asgs, wipe, gKeep, ev, evs, gCall, gCons, gNil, gVar, callP, mapO, toR_noC (pl_noC x hp), rd, noCs_two hp, e, noCr, noC, ofR, isR, stor]
    show (match gStep E [2, 3] (.tp [.nm 2, .nm 3]) none (ev G C (.call i [.var 2, .var 3])) (.tup [x, x]) S with
      | some (o, S1) => match compL (gStep E [2, 3] (.tp [.nm 2, .nm 3]) none (ev G C (.call i [.var 2, .var 3]))) (zipL xs xs) S1 with
        | some (ys, S2) => some (match o with
          | some y => y :: ys
          | none => ys, S2)
        | none => none
      | none => none) = _
    rw [st]
    simp only [ih]
    rfl
theorem blsOf_rep : ∀ n : Nat, blsOf (List.replicate n (.bl true)) = some (List.replicate n true)
  | 0 => rfl
  | n + 1 => by simp [List.replicate_succ, blsOf, blsOf_rep n]
mutual
/-- short enough everywhere -/
def sml : PV → Bool
  | .tup xs => Nat.ble xs.length line && smls xs
  | .lst xs => Nat.ble xs.length line && smls xs
  | _ => true
def smls : List PV → Bool
  | [] => true
  | x :: xs => sml x && smls xs
end
theorem pls_mem : ∀ {xs : List PV}, pls xs = true → ∀ x ∈ xs, pl x = true
  | [], _, _, h => by cases h
  | y :: ys, h, x, hx => by
    simp only [pls, Bool.and_eq_true] at h
    rcases List.mem_cons.mp hx with rfl | hx
    · exact h.1
    · exact pls_mem h.2 x hx
theorem smls_mem : ∀ {xs : List PV}, smls xs = true → ∀ x ∈ xs, sml x = true
  | [], _, _, h => by cases h
  | y :: ys, h, x, hx => by
    simp only [smls, Bool.and_eq_true] at h
    rcases List.mem_cons.mp hx with rfl | hx
    · exact h.1
    · exact smls_mem h.2 x hx
theorem deps_mem : ∀ {xs : List PV} {x : PV}, x ∈ xs → dep x ≤ deps xs
  | [], _, h => by cases h
  | y :: ys, x, hx => by
    simp only [deps]
    rcases List.mem_cons.mp hx with rfl | hx
    · exact Nat.le_max_left _ _
    · exact Nat.le_trans (deps_mem hx) (Nat.le_max_right _ _)
theorem same_ok {i : Nat} (hi : T[i]? = some (sameF i)) : ∀ (d : Nat) (x : PV), pl x = true → sml x = true → dep x ≤ d → dep x ≤ 60 → ∀ n, d ≤ n → call G T w (n + 1) i [.v x, .v x] [] = some (.v (.bl true), []) := by
  intro d
  induction d with
  | zero =>
    intro x hp hs hd h60 n hn
    rw [call_succ hi]
    cases x with
    | non => rfl
    | bl b => cases b <;> rfl
    | int j => simp [run, sameF, exs, ex, hCons, hNil, hRet, hIfe, ev, evs, evB, gIsi, gVar, rd, rdT, isCel, isT, truth, toE, gCmp, cmpop, gAnd, gNo, eqOk, dep, eqP, fin]
    | str z => simp [run, sameF, exs, ex, hCons, hNil, hRet, hIfe, ev, evs, evB, gIsi, gVar, rd, rdT, isCel, isT, truth, toE, gCmp, cmpop, gAnd, gNo, eqOk, dep, eqP, fin]
    | tup xs => simp [dep] at hd
    | lst xs => simp [dep] at hd
    | dic _ _ _ => cases hp
    | scr _ => cases hp
    | cel _ => cases hp
  | succ d ih =>
    intro x hp hs hd h60 n hn
    obtain ⟨m, rfl⟩ : ∃ m, n = m + 1 := ⟨n - 1, by omega⟩
    rw [call_succ hi]
    cases x with
    | non => rfl
    | bl b => cases b <;> rfl
    | int j => simp [run, sameF, exs, ex, hCons, hNil, hRet, hIfe, ev, evs, evB, gIsi, gVar, rd, rdT, isCel, isT, truth, toE, gCmp, cmpop, gAnd, gNo, eqOk, dep, eqP, fin]
    | str z => simp [run, sameF, exs, ex, hCons, hNil, hRet, hIfe, ev, evs, evB, gIsi, gVar, rd, rdT, isCel, isT, truth, toE, gCmp, cmpop, gAnd, gNo, eqOk, dep, eqP, fin]
    | tup xs =>
      simp only [pl] at hp
      simp only [sml, Bool.and_eq_true] at hs
      simp only [dep] at hd h60
      have hc := same_comp (G := G) (C := call G T w (m + 1)) (i := i) (E := [some (.v (.tup xs)), some (.v (.tup xs)), none, none]) rfl xs (fun x hx => ⟨pls_mem hp x hx, [], ih x (pls_mem hp x hx) (smls_mem hs.2 x hx) (by have := deps_mem hx; omega) (by have := deps_mem hx; omega) m (by omega)⟩) []
      have hl : xs.length ≤ line := Nat.le_of_ble_eq_true hs.1
      have hcc : ev G (call G T w (m + 1)) (.comp [2, 3] (.tp [.nm 2, .nm 3]) (.zip (.var 0) (.var 1)) none (.call i [.var 2, .var 3])) [some (.v (.tup xs)), some (.v (.tup xs)), none, none] [] = some (.n (.lst (List.replicate xs.length (.bl true))), []) := by
        simp only [ev, evC, evI, gComp, gZip, gVar, List.getElem?_cons_zero, List.getElem?_cons_succ, stor, zipP, zipSeq, lock]
        have hc' := hc
        simp only [ev] at hc'
        rw [hc']
        simp [hl, unlock]
      generalize (call G T w (m + 1)) = C at hcc
      unfold sameF
      generalize (Ex.comp [2, 3] (.tp [.nm 2, .nm 3]) (.zip (.var 0) (.var 1)) none (.call i [.var 2, .var 3])) = Q at hcc ⊢
      simp [run, exs, ex, hCons, hNil, hRet, hIfe, ev, evs, evB, gIsi, gVar, rd, rdT, isCel, isT, truth, toE, gCmp, cmpop, gAnd, gOr, gNo, eqOk, dep, eqP, fin, gBi, gCons, gNil, mapO, biF, blsOf_rep, hcc]
    | lst xs =>
      simp only [pl] at hp
      simp only [sml, Bool.and_eq_true] at hs
      simp only [dep] at hd h60
      have hc := same_comp (G := G) (C := call G T w (m + 1)) (i := i) (E := [some (.v (.lst xs)), some (.v (.lst xs)), none, none]) rfl xs (fun x hx => ⟨pls_mem hp x hx, [], ih x (pls_mem hp x hx) (smls_mem hs.2 x hx) (by have := deps_mem hx; omega) (by have := deps_mem hx; omega) m (by omega)⟩) []
      have hl : xs.length ≤ line := Nat.le_of_ble_eq_true hs.1
      have hcc : ev G (call G T w (m + 1)) (.comp [2, 3] (.tp [.nm 2, .nm 3]) (.zip (.var 0) (.var 1)) none (.call i [.var 2, .var 3])) [some (.v (.lst xs)), some (.v (.lst xs)), none, none] [] = some (.n (.lst (List.replicate xs.length (.bl true))), []) := by
        simp only [ev, evC, evI, gComp, gZip, gVar, List.getElem?_cons_zero, List.getElem?_cons_succ, stor, zipP, zipSeq, lock]
        have hc' := hc
        simp only [ev] at hc'
        rw [hc']
        simp [hl, unlock]
      generalize (call G T w (m + 1)) = C at hcc
      unfold sameF
      generalize (Ex.comp [2, 3] (.tp [.nm 2, .nm 3]) (.zip (.var 0) (.var 1)) none (.call i [.var 2, .var 3])) = Q at hcc ⊢
      simp [run, exs, ex, hCons, hNil, hRet, hIfe, ev, evs, evB, gIsi, gVar, rd, rdT, isCel, isT, truth, toE, gCmp, cmpop, gAnd, gOr, gNo, eqOk, dep, eqP, fin, gBi, gCons, gNil, mapO, biF, blsOf_rep, hcc]
    | dic _ _ _ => cases hp
    | scr _ => cases hp
    | cel _ => cases hp
end
end Py

set_option linter.all false
set_option maxRecDepth 100000
set_option maxHeartbeats 1000000
namespace Py
def boxF (c : Int) : Fn := ⟨2, 3, [.set 2 (.ife (.cmp .lt (.var 1) (.bi .len [.var 0])) (.ix (.var 0) (.var 1)) (.cst (.int 0))), .ret (.lst [.bin .mul (.bi .abs [.var 2]) (.bi .int [.cmp .ge (.bi .abs [.var 2]) (.bin .pow (.cst (.int 10)) (.cst (.int 18)))]), .bin .add (.bin .add (.bin .mod (.bi .int [.var 2]) (.cst (.int 2305843009213693951))) (.bin .mul (.cst (.int 39373)) (.var 1))) (.cst (.int c)), .cst (.int 0)])]⟩
section
variable {G : List PV} {T : List Fn} {w n : Nat}
theorem box_ok {i : Nat} {c x : Int} (hi : T[i]? = some (boxF c)) (hc : 0 ≤ c) (hc2 : c < 2 ^ 61) : ∃ t : Tin, call G T w (n + 1) i [.v (.lst [.int x]), .v (.int 0)] [] = some (.own t.pv, []) ∧ t.Ok 0 := by
  rw [call_succ hi]
  have m1 := fmod_nn x (show (0 : Int) < 2305843009213693951 by decide)
  have m2 := Int.fmod_lt_of_pos x (show (0 : Int) < 2305843009213693951 by decide)
  have m3 : ∀ u : Int, mulOk u 1 = true := fun u => mulOkR (by decide)
  have m4 : ∀ u : Int, mulOk u 0 = true := fun u => mulOkR (by decide)
  by_cases h : x < 0
  · by_cases h2 : (1000000000000000000 : Int) ≤ -x
    · refine ⟨⟨-x, x.fmod 2305843009213693951 + c, 0⟩, ?_, ⟨by show 0 ≤ _ + c; omega, by show _ + c < _; omega, Int.le_refl 0, Int.le_refl 0⟩⟩
      simp [run, boxF, exs, ex, hCons, hNil, hRet, hSet, ev, evs, gIfe, gCmp, gVar, gBi, gCons, gNil, mapO, rd, rdT, biF, cmpop, cmpI, truth, gIx, ixP, pyIx, toR, toE, gLst, gBin, binop, binI, h, h2, m3, m4, stor, line, fin, Tin.pv]
    · refine ⟨⟨0, x.fmod 2305843009213693951 + c, 0⟩, ?_, ⟨by show 0 ≤ _ + c; omega, by show _ + c < _; omega, Int.le_refl 0, Int.le_refl 0⟩⟩
      simp [run, boxF, exs, ex, hCons, hNil, hRet, hSet, ev, evs, gIfe, gCmp, gVar, gBi, gCons, gNil, mapO, rd, rdT, biF, cmpop, cmpI, truth, gIx, ixP, pyIx, toR, toE, gLst, gBin, binop, binI, h, h2, m3, m4, stor, line, fin, Tin.pv]
  · by_cases h2 : (1000000000000000000 : Int) ≤ x
    · refine ⟨⟨x, x.fmod 2305843009213693951 + c, 0⟩, ?_, ⟨by show 0 ≤ _ + c; omega, by show _ + c < _; omega, Int.le_refl 0, Int.le_refl 0⟩⟩
      simp [run, boxF, exs, ex, hCons, hNil, hRet, hSet, ev, evs, gIfe, gCmp, gVar, gBi, gCons, gNil, mapO, rd, rdT, biF, cmpop, cmpI, truth, gIx, ixP, pyIx, toR, toE, gLst, gBin, binop, binI, h, h2, m3, m4, stor, line, fin, Tin.pv]
    · refine ⟨⟨0, x.fmod 2305843009213693951 + c, 0⟩, ?_, ⟨by show 0 ≤ _ + c; omega, by show _ + c < _; omega, Int.le_refl 0, Int.le_refl 0⟩⟩
      simp [run, boxF, exs, ex, hCons, hNil, hRet, hSet, ev, evs, gIfe, gCmp, gVar, gBi, gCons, gNil, mapO, rd, rdT, biF, cmpop, cmpI, truth, gIx, ixP, pyIx, toR, toE, gLst, gBin, binop, binI, h, h2, m3, m4, stor, line, fin, Tin.pv]
end
end Py

set_option linter.all false
set_option maxRecDepth 100000
set_option maxHeartbeats 1000000
namespace Py
/-! ### the greatest common divisor -/
def commonF : Fn := ⟨2, 2, [.par [0, 1] [.bi .abs [.var 0], .bi .abs [.var 1]], .whil (.cmp .gt (.var 1) (.cst (.int 0))) [.par [0, 1] [.var 1, .bin .mod (.var 0) (.var 1)]], .ret (.var 0)]⟩
section
variable {G : List PV} {C : Ora} {S : Store}
def cTest (G : List PV) (C : Ora) : Env → Store → Option (Bool × Store) := hTest (ev G C (.cmp .gt (.var 1) (.cst (.int 0))))
def cBody (G : List PV) (C : Ora) (w : Nat) : RS := exs G C w [.par [0, 1] [.var 1, .bin .mod (.var 0) (.var 1)]]
theorem c_stop {w : Nat} (a : Nat) : cTest G C [some (.v (.int a)), some (.v (.int ((0 : Nat) : Int)))] S = some (false, S) := by
  simp [run, exs, ex, ev, evs, evB, evO, evC, evI, hCons, hNil, hRet, hSet, hTset, hPar, parE, hIfe, hExpr, asg, asgs, gTup, gLst, gBin, gIx, gVar, gGlo, isCon, gNeg, gNo, gCmp, gCmp2, gIfe, gAnd, gOr, gCall, gBi, gIsi, isT, isCel, gSl, gPart, ixP, pyIx, gCons, gNil, rd, rdT, truth, binop, binI, cmpop, cmpI, eqOk, dep, deps, eqP, eqPs, biF, mapO, stor, toR, toE, fin, line, noCs, noC, noLr, noL, noLs, lent, isR, noCr, ofR, callP_fnv, seqOf, intsOf, blsOf, minI, maxI, zipP, zipSeq, cTest, hTest]
theorem c_go (a b : Nat) (h : 0 < b) : cTest G C [some (.v (.int a)), some (.v (.int b))] S = some (true, S) := by
  simp [run, exs, ex, ev, evs, evB, evO, evC, evI, hCons, hNil, hRet, hSet, hTset, hPar, parE, hIfe, hExpr, asg, asgs, gTup, gLst, gBin, gIx, gVar, gGlo, isCon, gNeg, gNo, gCmp, gCmp2, gIfe, gAnd, gOr, gCall, gBi, gIsi, isT, isCel, gSl, gPart, ixP, pyIx, gCons, gNil, rd, rdT, truth, binop, binI, cmpop, cmpI, eqOk, dep, deps, eqP, eqPs, biF, mapO, stor, toR, toE, fin, line, noCs, noC, noLr, noL, noLs, lent, isR, noCr, ofR, callP_fnv, seqOf, intsOf, blsOf, minI, maxI, zipP, zipSeq, cTest, hTest, h]
theorem c_step {w : Nat} (a b : Nat) (h : 0 < b) : cBody G C w [some (.v (.int a)), some (.v (.int b))] S = some (.next, [some (.v (.int b)), some (.v (.int ((a % b : Nat) : Int)))], S) := by
  have e : (a : Int).fmod (b : Int) = ((a % b : Nat) : Int) := by
    rw [Int.fmod_eq_emod_of_nonneg _ (by omega)]
    rfl
  have h2 : ¬ b = 0 := by omega
  simp [run, exs, ex, ev, evs, evB, evO, evC, evI, hCons, hNil, hRet, hSet, hTset, hPar, parE, hIfe, hExpr, asg, asgs, gTup, gLst, gBin, gIx, gVar, gGlo, isCon, gNeg, gNo, gCmp, gCmp2, gIfe, gAnd, gOr, gCall, gBi, gIsi, isT, isCel, gSl, gPart, ixP, pyIx, gCons, gNil, rd, rdT, truth, binop, binI, cmpop, cmpI, eqOk, dep, deps, eqP, eqPs, biF, mapO, stor, toR, toE, fin, line, noCs, noC, noLr, noL, noLs, lent, isR, noCr, ofR, callP_fnv, seqOf, intsOf, blsOf, minI, maxI, zipP, zipSeq, cBody, e, h2]
theorem gcd_step (a b : Nat) : Nat.gcd b (a % b) = Nat.gcd a b := by
  rw [Nat.gcd_comm b, ← Nat.gcd_rec, Nat.gcd_comm]
theorem euclid {w : Nat} : ∀ (k a b n : Nat), b < 2 ^ k → 2 * k + 1 ≤ n → whileL (cTest G C) (cBody G C w) n [some (.v (.int a)), some (.v (.int b))] S = some (.next, [some (.v (.int ((Nat.gcd a b : Nat) : Int))), some (.v (.int ((0 : Nat) : Int)))], S) := by
  intro k
  have stop : ∀ (a : Nat) n, 1 ≤ n → whileL (cTest G C) (cBody G C w) n [some (.v (.int a)), some (.v (.int ((0 : Nat) : Int)))] S = some (.next, [some (.v (.int a)), some (.v (.int ((0 : Nat) : Int)))], S) := fun a n hn => by
    obtain ⟨m, rfl⟩ : ∃ m, n = m + 1 := ⟨n - 1, by omega⟩
    unfold whileL
    rw [c_stop (w := 0)]
  have go : ∀ (a b n : Nat), 0 < b → whileL (cTest G C) (cBody G C w) (n + 1) [some (.v (.int a)), some (.v (.int b))] S = whileL (cTest G C) (cBody G C w) n [some (.v (.int b)), some (.v (.int ((a % b : Nat) : Int)))] S := fun a b n h => by
    rw [whileL, c_go a b h]
    simp only
    rw [c_step a b h]
  induction k with
  | zero =>
    intro a b n hb hn
    have : b = 0 := by omega
    subst this
    rw [stop _ _ (by omega), Nat.gcd_zero_right]
  | succ k ih =>
    intro a b n hb hn
    by_cases h0 : b = 0
    · subst h0
      rw [stop _ _ (by omega), Nat.gcd_zero_right]
    · obtain ⟨m, rfl⟩ : ∃ m, n = m + 2 := ⟨n - 2, by omega⟩
      rw [go _ _ _ (by omega), ← gcd_step]
      by_cases h1 : a % b = 0
      · rw [h1, stop _ _ (by omega), Nat.gcd_zero_right]
      · rw [go _ _ _ (by omega), ← gcd_step b (a % b)]
        have lt := Nat.mod_lt a (show 0 < b by omega)
        have : b % (a % b) < 2 ^ k := by
          have h3 := Nat.mod_lt b (show 0 < a % b by omega)
          have h4 := Nat.div_add_mod b (a % b)
          have h5 : 1 ≤ b / (a % b) := Nat.div_pos (by omega) (by omega)
          have h6 : a % b * 1 ≤ a % b * (b / (a % b)) := Nat.mul_le_mul_left _ h5
          rw [Nat.pow_succ] at hb
          omega
        exact ih _ _ _ this (by omega)
theorem common_ok {T : List Fn} {w n i k : Nat} (hi : T[i]? = some commonF) (x y : Int) (hy : y.natAbs < 2 ^ k) (hw : 2 * k + 1 ≤ w) : call G T w (n + 1) i [.v (.int x), .v (.int y)] [] = some (.v (.int ((Nat.gcd x.natAbs y.natAbs : Nat) : Int)), []) := by
  rw [call_succ hi]
  have ab : ∀ z : Int, (if z < 0 then -z else z) = ((z.natAbs : Nat) : Int) := fun z => by split <;> omega
  have h1 : exs G (call G T w n) w commonF.body [some (.v (.int x)), some (.v (.int y))] [] = some (.ret (.v (.int ((Nat.gcd x.natAbs y.natAbs : Nat) : Int))), [some (.v (.int ((Nat.gcd x.natAbs y.natAbs : Nat) : Int))), some (.v (.int ((0 : Nat) : Int)))], []) := by
    have p : hPar [0, 1] (evs G (call G T w n) [.bi .abs [.var 0], .bi .abs [.var 1]]) [some (.v (.int x)), some (.v (.int y))] [] = some (.next, [some (.v (.int ((x.natAbs : Nat) : Int))), some (.v (.int ((y.natAbs : Nat) : Int)))], []) := by
      simp [run, exs, ex, ev, evs, evB, evO, evC, evI, hCons, hNil, hRet, hSet, hTset, hPar, parE, hIfe, hExpr, asg, asgs, gTup, gLst, gBin, gIx, gVar, gGlo, isCon, gNeg, gNo, gCmp, gCmp2, gIfe, gAnd, gOr, gCall, gBi, gIsi, isT, isCel, gSl, gPart, ixP, pyIx, gCons, gNil, rd, rdT, truth, binop, binI, cmpop, cmpI, eqOk, dep, deps, eqP, eqPs, biF, mapO, stor, toR, toE, fin, line, noCs, noC, noLr, noL, noLs, lent, isR, noCr, ofR, callP_fnv, seqOf, intsOf, blsOf, minI, maxI, zipP, zipSeq, ab]
    have q := euclid (G := G) (C := call G T w n) (S := []) (w := w) k x.natAbs y.natAbs w hy hw
    have hn : ∀ {f g : RS} {E E1 : Env} {S S1 : Store}, f E S = some (.next, E1, S1) → hCons f g E S = g E1 S1 := fun h => by simp [hCons, h]
    exact (hn p).trans ((hn q).trans rfl)
  simp [run, h1, commonF, toE]
  have h1 := h1
  unfold commonF at h1
  simp only at h1
  rw [h1]
  rfl
end
end Py

set_option linter.all false
set_option maxRecDepth 100000
set_option maxHeartbeats 1000000
namespace Py
section
variable {G : List PV} {C : Ora} {w : Nat}
theorem exs_next {s : Stm} {ss : List Stm} {E E1 : Env} {S S1 : Store} {r : Option (Fl × Env × Store)} (h : ex G C w s E S = some (.next, E1, S1)) (k : exs G C w ss E1 S1 = r) : exs G C w (s :: ss) E S = r := by
  simp [exs, hCons, h, k]
/-- a test that fails in all its parts: on -/
theorem if_none {c : Ex} {a : List Stm} {ss : List Stm} {E : Env} {S : Store} {r : Option (Fl × Env × Store)} (h : ev G C c E S = some (.v (.bl false), S)) (k : exs G C w ss E S = r) : exs G C w (.ife c a [] :: ss) E S = r := by
  refine exs_next ?_ k
  simp [ex, exs, hIfe, h, rdT, rd, truth, hNil]
theorem or2 {a b : Ex} {E : Env} {S : Store} (h1 : ev G C a E S = some (.v (.bl false), S)) (h2 : ev G C b E S = some (.v (.bl false), S)) : ev G C (.bop false [a, b]) E S = some (.v (.bl false), S) := by
  simp [ev, evB, gOr, h1, h2, rdT, rd, truth]
theorem or3 {a b c : Ex} {E : Env} {S : Store} (h1 : ev G C a E S = some (.v (.bl false), S)) (h2 : ev G C b E S = some (.v (.bl false), S)) (h3 : ev G C c E S = some (.v (.bl false), S)) : ev G C (.bop false [a, b, c]) E S = some (.v (.bl false), S) := by
  simp [ev, evB, gOr, h1, h2, h3, rdT, rd, truth]
/-- two trees that are alike -/
theorem ne_no {a b : Ex} {E : Env} {S : Store} {x y : PV} (h1 : ev G C a E S = some (.v x, S)) (h2 : ev G C b E S = some (.v y, S)) (e : x = y) (p : pl y = true) (d : Nat.ble (dep y) 60 = true) : ev G C (.cmp .ne a b) E S = some (.v (.bl false), S) := by
  subst e
  simp only [ev, gCmp, h1, h2, rd, cmpop, eqOk, d, eqP_rfl x p, Bool.and_self, if_true, Bool.not_true]
theorem forL_inv {step : PV → Env → Store → Option (Fl × Env × Store)} {P : Nat → Env → Store → Prop} (h : ∀ i x E S, P i E S → ∃ E' S', step x E S = some (.next, E', S') ∧ P (i + 1) E' S') :
    ∀ (xs : List PV) (i : Nat) (E : Env) (S : Store), P i E S → ∃ E' S', forL step xs E S = some (.next, E', S') ∧ P (i + xs.length) E' S'
  | [], i, E, S, p => ⟨E, S, rfl, p⟩
  | x :: xs, i, E, S, p => by
    obtain ⟨E1, S1, e1, p1⟩ := h i x E S p
    obtain ⟨E2, S2, e2, p2⟩ := forL_inv h xs (i + 1) E1 S1 p1
    refine ⟨E2, S2, ?_, ?_⟩
    · simp [forL, e1, e2]
    · rw [List.length_cons, show i + (xs.length + 1) = i + 1 + xs.length by omega]
      exact p2
end
end Py

set_option linter.all false
set_option maxRecDepth 100000
set_option maxHeartbeats 4000000
namespace A71
open Py
abbrev fv := fnv G fs 5000
theorem e (n i) (xs) (F) (h : fs[i]? = some F) : fv (n+1) i xs = (run G (call G fs 5000 n) 5000 F (xs.map .v) []).map (·.1) := fnv_succ h
class B2 (i : Int) : Prop where
  h : i.natAbs < 2 ^ 200
instance (priority := low) {i : Int} [b : B2 i] : Bd i 200 := ⟨b.h⟩
theorem B2.of {i : Int} {a : Nat} [b : Bd i a] (h : a ≤ 200) : B2 i := ⟨Nat.lt_of_lt_of_le b.h (Nat.pow_le_pow_right (by decide) h)⟩
theorem natAbs_fdiv_le (i j : Int) : (i.fdiv j).natAbs ≤ i.natAbs := by
  rcases Int.le_total 0 j with h | h
  · rw [Int.fdiv_eq_ediv_of_nonneg _ h]
    exact Int.natAbs_ediv_le_natAbs i j
  · rw [← Int.neg_fdiv_neg, Int.fdiv_eq_ediv_of_nonneg _ (by omega)]
    have := Int.natAbs_ediv_le_natAbs (-i) (-j)
    omega
instance {i j : Int} {a : Nat} [p : Bd i a] : Bd (i.fdiv j) a := ⟨Nat.lt_of_le_of_lt (natAbs_fdiv_le i j) p.h⟩
abbrev t3 (x y z : Int) : PV := .tup [.int x, .int y, .int z]
abbrev gc (x y : Int) : Int := ((Nat.gcd x.natAbs y.natAbs : Nat) : Int)
theorem gc_nn (x y : Int) : 0 ≤ gc x y := Int.natCast_nonneg _
instance {x y : Int} {a b : Nat} [p : Bd x a] [q : Bd y b] : Bd ((Nat.gcd x.natAbs y.natAbs : Nat) : Int) (max a b) := ⟨by
  have h1 := Nat.pow_le_pow_right (n := 2) (by omega) (Nat.le_max_left a b)
  have h2 := Nat.pow_le_pow_right (n := 2) (by omega) (Nat.le_max_right a b)
  have := p.h
  have := q.h
  by_cases hx : x.natAbs = 0
  · rw [hx, Nat.gcd_zero_left]; omega
  · have := Nat.gcd_le_left y.natAbs (Nat.pos_of_ne_zero hx)
    omega⟩
theorem g0 : G[0]? = some (.tup [.int 0, .int 0, .int 0]) := rfl
theorem g1 : G[1]? = some (.tup [.non, .non, .int 0]) := rfl
theorem g2 : G[2]? = some (.str [110, 111, 110, 101]) := rfl
theorem g3 : G[3]? = some (.str [111, 110, 101]) := rfl
theorem g4 : G[4]? = some (.str [97, 108, 108]) := rfl
theorem g5 : G[5]? = some (.str [108, 105, 110, 101]) := rfl
theorem g6 : G[6]? = some (.tup [.int 1, .int 0, .int 0]) := rfl
theorem g7 : G[7]? = some (.tup [.int 0, .int 1, .int 0]) := rfl
theorem l2 : Nat.log2 2 < 9000 := by decide
theorem lg {i : Int} {a : Nat} [p : Bd i a] (h : a < 9000) : Nat.log2 i.natAbs < 9000 := by
  by_cases z : i.natAbs = 0
  · rw [z]; decide
  · exact Nat.lt_trans ((Nat.log2_lt z).mpr p.h) h
theorem lgB {i : Int} [B2 i] : Nat.log2 i.natAbs < 9000 := lg (a := 200) (by decide)
variable (n : Nat) (x y z x2 y2 z2 k : Int)
theorem m8 : fv (n+2) 8 [.int x] = some (.v (.int x)) := by rfl
theorem m9 (h : 1 ≤ k) : fv (n+3) 9 [.int k, .int 1] = some (.v (.int k)) := by
  have h1 : fv (n+2) 1 [.int k, .int 1] = some (.v (.bl true)) := by
    rw [e _ 1 _ f1 rfl]
    have h0 : fv (n+1) 0 [.int k] = some (.v (.bl true)) := by rfl
    simp [run, exs, ex, ev, evs, evB, evO, evC, evI, hCons, hNil, hRet, hSet, hTset, hPar, parE, hIfe, hExpr, asg, asgs, gTup, gLst, gBin, gIx, gVar, gGlo, isCon, gNeg, gNo, gCmp, gCmp2, gIfe, gAnd, gOr, gCall, gBi, gIsi, isT, isCel, gSl, gPart, ixP, pyIx, gCons, gNil, rd, rdT, truth, binop, binI, cmpop, cmpI, eqOk, dep, deps, eqP, eqPs, biF, mapO, stor, toR, toE, fin, line, noCs, noC, noLr, noL, noLs, lent, isR, noCr, ofR, callP_fnv, seqOf, intsOf, blsOf, minI, maxI, zipP, zipSeq, f1, h0, h]
  rw [e _ 9 _ f9 rfl]
  simp [run, exs, ex, ev, evs, evB, evO, evC, evI, hCons, hNil, hRet, hSet, hTset, hPar, parE, hIfe, hExpr, asg, asgs, gTup, gLst, gBin, gIx, gVar, gGlo, isCon, gNeg, gNo, gCmp, gCmp2, gIfe, gAnd, gOr, gCall, gBi, gIsi, isT, isCel, gSl, gPart, ixP, pyIx, gCons, gNil, rd, rdT, truth, binop, binI, cmpop, cmpI, eqOk, dep, deps, eqP, eqPs, biF, mapO, stor, toR, toE, fin, line, noCs, noC, noLr, noL, noLs, lent, isR, noCr, ofR, callP_fnv, seqOf, intsOf, blsOf, minI, maxI, zipP, zipSeq, f9, h1]
theorem m16 : fv (n+5) 16 [t3 x y z] = some (.v (t3 x y z)) := by rfl
theorem m15 : fv (n+5) 15 [t3 x y z] = some (.v (.bl true)) := by rfl
theorem m17 : fv (n+6) 17 [.tup [t3 x y z]] = some (.v (.tup [t3 x y z])) := by rfl
theorem m69 : fv (n+7) 69 [.tup [t3 x y z, t3 x2 y2 z2]] = some (.v (.tup [t3 x y z, t3 x2 y2 z2])) := by rfl
theorem m14 : fv (n+1) 14 [.int x, .int y] = some (.v (.bl (if x = 0 then decide (y = 0) else decide (y.fmod x = 0)))) := by
  rw [e _ 14 _ f14 rfl]
  by_cases h : x = 0
  · simp [run, exs, ex, ev, evs, evB, evO, evC, evI, hCons, hNil, hRet, hSet, hTset, hPar, parE, hIfe, hExpr, asg, asgs, gTup, gLst, gBin, gIx, gVar, gGlo, isCon, gNeg, gNo, gCmp, gCmp2, gIfe, gAnd, gOr, gCall, gBi, gIsi, isT, isCel, gSl, gPart, ixP, pyIx, gCons, gNil, rd, rdT, truth, binop, binI, cmpop, cmpI, eqOk, dep, deps, eqP, eqPs, biF, mapO, stor, toR, toE, fin, line, noCs, noC, noLr, noL, noLs, lent, isR, noCr, ofR, callP_fnv, seqOf, intsOf, blsOf, minI, maxI, zipP, zipSeq, f14, h]
  · simp [run, exs, ex, ev, evs, evB, evO, evC, evI, hCons, hNil, hRet, hSet, hTset, hPar, parE, hIfe, hExpr, asg, asgs, gTup, gLst, gBin, gIx, gVar, gGlo, isCon, gNeg, gNo, gCmp, gCmp2, gIfe, gAnd, gOr, gCall, gBi, gIsi, isT, isCel, gSl, gPart, ixP, pyIx, gCons, gNil, rd, rdT, truth, binop, binI, cmpop, cmpI, eqOk, dep, deps, eqP, eqPs, biF, mapO, stor, toR, toE, fin, line, noCs, noC, noLr, noL, noLs, lent, isR, noCr, ofR, callP_fnv, seqOf, intsOf, blsOf, minI, maxI, zipP, zipSeq, f14, h]
variable [B2 x] [B2 y] [B2 z] [B2 x2] [B2 y2] [B2 z2] [B2 k]
theorem m7 : fv (n+1) 7 [.int x, .int y] = some (.v (.int (gc x y))) := by
  unfold fv fnv
  rw [show List.map EV.v [PV.int x, PV.int y] = [.v (.int x), .v (.int y)] from rfl, common_ok (k := 200) (T := fs) rfl x y (B2.h) (by decide)]
  rfl
theorem m11 : fv (n+1) 11 [.int k] = some (.v (.int ((k * (k - 1)).fdiv 2))) := by
  rw [e n 11 _ f11 rfl]
  simp (decide := true) [run, exs, ex, ev, evs, evB, evO, evC, evI, hCons, hNil, hRet, hSet, hTset, hPar, parE, hIfe, hExpr, asg, asgs, gTup, gLst, gBin, gIx, gVar, gGlo, isCon, gNeg, gNo, gCmp, gCmp2, gIfe, gAnd, gOr, gCall, gBi, gIsi, isT, isCel, gSl, gPart, ixP, pyIx, gCons, gNil, rd, rdT, truth, binop, binI, cmpop, cmpI, eqOk, dep, deps, eqP, eqPs, biF, mapO, stor, toR, toE, fin, line, noCs, noC, noLr, noL, noLs, lent, isR, noCr, ofR, callP_fnv, seqOf, intsOf, blsOf, minI, maxI, zipP, zipSeq, f11, mulOk_bd, l2]
theorem m18 : fv (n+1) 18 [t3 x y z, t3 x2 y2 z2] = some (.v (t3 (x + x2) (y + y2) (z+z2+x*y2))) := by
  rw [e n 18 _ f18 rfl]
  simp (decide := true) [run, exs, ex, ev, evs, evB, evO, evC, evI, hCons, hNil, hRet, hSet, hTset, hPar, parE, hIfe, hExpr, asg, asgs, gTup, gLst, gBin, gIx, gVar, gGlo, isCon, gNeg, gNo, gCmp, gCmp2, gIfe, gAnd, gOr, gCall, gBi, gIsi, isT, isCel, gSl, gPart, ixP, pyIx, gCons, gNil, rd, rdT, truth, binop, binI, cmpop, cmpI, eqOk, dep, deps, eqP, eqPs, biF, mapO, stor, toR, toE, fin, line, noCs, noC, noLr, noL, noLs, lent, isR, noCr, ofR, callP_fnv, seqOf, intsOf, blsOf, minI, maxI, zipP, zipSeq, f18, mulOk_bd]
theorem m19 : fv (n+6) 19 [t3 x y z, t3 x2 y2 z2] = some (.v (t3 (x + x2) (y + y2) (z+z2+x*y2))) := by
  rw [e _ 19 _ f19 rfl]
  simp [run, exs, ex, ev, evs, evB, evO, evC, evI, hCons, hNil, hRet, hSet, hTset, hPar, parE, hIfe, hExpr, asg, asgs, gTup, gLst, gBin, gIx, gVar, gGlo, isCon, gNeg, gNo, gCmp, gCmp2, gIfe, gAnd, gOr, gCall, gBi, gIsi, isT, isCel, gSl, gPart, ixP, pyIx, gCons, gNil, rd, rdT, truth, binop, binI, cmpop, cmpI, eqOk, dep, deps, eqP, eqPs, biF, mapO, stor, toR, toE, fin, line, noCs, noC, noLr, noL, noLs, lent, isR, noCr, ofR, callP_fnv, seqOf, intsOf, blsOf, minI, maxI, zipP, zipSeq, f19, m16, m18]
theorem m20 : fv (n+1) 20 [t3 x y z] = some (.v (t3 (-x) (-y) (x*y-z))) := by
  rw [e _ 20 _ f20 rfl]
  simp (decide := true) [run, exs, ex, ev, evs, evB, evO, evC, evI, hCons, hNil, hRet, hSet, hTset, hPar, parE, hIfe, hExpr, asg, asgs, gTup, gLst, gBin, gIx, gVar, gGlo, isCon, gNeg, gNo, gCmp, gCmp2, gIfe, gAnd, gOr, gCall, gBi, gIsi, isT, isCel, gSl, gPart, ixP, pyIx, gCons, gNil, rd, rdT, truth, binop, binI, cmpop, cmpI, eqOk, dep, deps, eqP, eqPs, biF, mapO, stor, toR, toE, fin, line, noCs, noC, noLr, noL, noLs, lent, isR, noCr, ofR, callP_fnv, seqOf, intsOf, blsOf, minI, maxI, zipP, zipSeq, f20, mulOk_bd]
theorem m21 : fv (n+6) 21 [t3 x y z] = some (.v (t3 (-x) (-y) (x*y-z))) := by
  rw [e _ 21 _ f21 rfl]
  simp [run, exs, ex, ev, evs, evB, evO, evC, evI, hCons, hNil, hRet, hSet, hTset, hPar, parE, hIfe, hExpr, asg, asgs, gTup, gLst, gBin, gIx, gVar, gGlo, isCon, gNeg, gNo, gCmp, gCmp2, gIfe, gAnd, gOr, gCall, gBi, gIsi, isT, isCel, gSl, gPart, ixP, pyIx, gCons, gNil, rd, rdT, truth, binop, binI, cmpop, cmpI, eqOk, dep, deps, eqP, eqPs, biF, mapO, stor, toR, toE, fin, line, noCs, noC, noLr, noL, noLs, lent, isR, noCr, ofR, callP_fnv, seqOf, intsOf, blsOf, minI, maxI, zipP, zipSeq, f21, m16, m20]
abbrev tm (x y z k : Int) : PV := t3 (k * x) (k * y) (k * z + (k * (k - 1)).fdiv 2 * x * y)
theorem m22 : fv (n+2) 22 [t3 x y z, .int k] = some (.v (tm x y z k)) := by
  rw [e _ 22 _ f22 rfl]
  simp (decide := true) [run, exs, ex, ev, evs, evB, evO, evC, evI, hCons, hNil, hRet, hSet, hTset, hPar, parE, hIfe, hExpr, asg, asgs, gTup, gLst, gBin, gIx, gVar, gGlo, isCon, gNeg, gNo, gCmp, gCmp2, gIfe, gAnd, gOr, gCall, gBi, gIsi, isT, isCel, gSl, gPart, ixP, pyIx, gCons, gNil, rd, rdT, truth, binop, binI, cmpop, cmpI, eqOk, dep, deps, eqP, eqPs, biF, mapO, stor, toR, toE, fin, line, noCs, noC, noLr, noL, noLs, lent, isR, noCr, ofR, callP_fnv, seqOf, intsOf, blsOf, minI, maxI, zipP, zipSeq, f22, m11, mulOk_bd]
theorem m23 : fv (n+6) 23 [t3 x y z, .int k] = some (.v (tm x y z k)) := by
  rw [e _ 23 _ f23 rfl]
  simp [run, exs, ex, ev, evs, evB, evO, evC, evI, hCons, hNil, hRet, hSet, hTset, hPar, parE, hIfe, hExpr, asg, asgs, gTup, gLst, gBin, gIx, gVar, gGlo, isCon, gNeg, gNo, gCmp, gCmp2, gIfe, gAnd, gOr, gCall, gBi, gIsi, isT, isCel, gSl, gPart, ixP, pyIx, gCons, gNil, rd, rdT, truth, binop, binI, cmpop, cmpI, eqOk, dep, deps, eqP, eqPs, biF, mapO, stor, toR, toE, fin, line, noCs, noC, noLr, noL, noLs, lent, isR, noCr, ofR, callP_fnv, seqOf, intsOf, blsOf, minI, maxI, zipP, zipSeq, f23, m16, m8, m22]
theorem m80 : fv (n+1) 80 [t3 x y z, .int k] = some (.v (tm x y z k)) := by
  rw [e _ 80 _ f80 rfl]
  simp (decide := true) [run, exs, ex, ev, evs, evB, evO, evC, evI, hCons, hNil, hRet, hSet, hTset, hPar, parE, hIfe, hExpr, asg, asgs, gTup, gLst, gBin, gIx, gVar, gGlo, isCon, gNeg, gNo, gCmp, gCmp2, gIfe, gAnd, gOr, gCall, gBi, gIsi, isT, isCel, gSl, gPart, ixP, pyIx, gCons, gNil, rd, rdT, truth, binop, binI, cmpop, cmpI, eqOk, dep, deps, eqP, eqPs, biF, mapO, stor, toR, toE, fin, line, noCs, noC, noLr, noL, noLs, lent, isR, noCr, ofR, callP_fnv, seqOf, intsOf, blsOf, minI, maxI, zipP, zipSeq, f80, l2, mulOk_bd]
theorem m79 : fv (n+1) 79 [t3 x y z, t3 x2 y2 z2] = some (.v (t3 (x + x2) (y + y2) (z+z2+x*y2))) := by
  rw [e n 79 _ f79 rfl]
  simp (decide := true) [run, exs, ex, ev, evs, evB, evO, evC, evI, hCons, hNil, hRet, hSet, hTset, hPar, parE, hIfe, hExpr, asg, asgs, gTup, gLst, gBin, gIx, gVar, gGlo, isCon, gNeg, gNo, gCmp, gCmp2, gIfe, gAnd, gOr, gCall, gBi, gIsi, isT, isCel, gSl, gPart, ixP, pyIx, gCons, gNil, rd, rdT, truth, binop, binI, cmpop, cmpI, eqOk, dep, deps, eqP, eqPs, biF, mapO, stor, toR, toE, fin, line, noCs, noC, noLr, noL, noLs, lent, isR, noCr, ofR, callP_fnv, seqOf, intsOf, blsOf, minI, maxI, zipP, zipSeq, f79, mulOk_bd]
theorem m24 : fv (n+1) 24 [t3 x y z, t3 x2 y2 z2] = some (.v (.int (x * y2 - y * x2))) := by
  rw [e _ 24 _ f24 rfl]
  simp (decide := true) [run, exs, ex, ev, evs, evB, evO, evC, evI, hCons, hNil, hRet, hSet, hTset, hPar, parE, hIfe, hExpr, asg, asgs, gTup, gLst, gBin, gIx, gVar, gGlo, isCon, gNeg, gNo, gCmp, gCmp2, gIfe, gAnd, gOr, gCall, gBi, gIsi, isT, isCel, gSl, gPart, ixP, pyIx, gCons, gNil, rd, rdT, truth, binop, binI, cmpop, cmpI, eqOk, dep, deps, eqP, eqPs, biF, mapO, stor, toR, toE, fin, line, noCs, noC, noLr, noL, noLs, lent, isR, noCr, ofR, callP_fnv, seqOf, intsOf, blsOf, minI, maxI, zipP, zipSeq, f24, mulOk_bd]
theorem m26 : fv (n+6) 26 [t3 x y z, t3 x2 y2 z2] = some (.v (t3 0 0 (x * y2 - y * x2))) := by
  have h25 : fv (n+5) 25 [t3 x y z, t3 x2 y2 z2] = some (.v (t3 0 0 (x * y2 - y * x2))) := by
    rw [e _ 25 _ f25 rfl]
    simp [run, exs, ex, ev, evs, evB, evO, evC, evI, hCons, hNil, hRet, hSet, hTset, hPar, parE, hIfe, hExpr, asg, asgs, gTup, gLst, gBin, gIx, gVar, gGlo, isCon, gNeg, gNo, gCmp, gCmp2, gIfe, gAnd, gOr, gCall, gBi, gIsi, isT, isCel, gSl, gPart, ixP, pyIx, gCons, gNil, rd, rdT, truth, binop, binI, cmpop, cmpI, eqOk, dep, deps, eqP, eqPs, biF, mapO, stor, toR, toE, fin, line, noCs, noC, noLr, noL, noLs, lent, isR, noCr, ofR, callP_fnv, seqOf, intsOf, blsOf, minI, maxI, zipP, zipSeq, f25, m24]
  rw [e _ 26 _ f26 rfl]
  simp [run, exs, ex, ev, evs, evB, evO, evC, evI, hCons, hNil, hRet, hSet, hTset, hPar, parE, hIfe, hExpr, asg, asgs, gTup, gLst, gBin, gIx, gVar, gGlo, isCon, gNeg, gNo, gCmp, gCmp2, gIfe, gAnd, gOr, gCall, gBi, gIsi, isT, isCel, gSl, gPart, ixP, pyIx, gCons, gNil, rd, rdT, truth, binop, binI, cmpop, cmpI, eqOk, dep, deps, eqP, eqPs, biF, mapO, stor, toR, toE, fin, line, noCs, noC, noLr, noL, noLs, lent, isR, noCr, ofR, callP_fnv, seqOf, intsOf, blsOf, minI, maxI, zipP, zipSeq, f26, m16, h25]
theorem m27 : fv (n+2) 27 [t3 x y z, t3 x2 y2 z2] = some (.v (t3 x y (z + (x2 * y - y2 * x)))) := by
  rw [e _ 27 _ f27 rfl]
  simp [run, exs, ex, ev, evs, evB, evO, evC, evI, hCons, hNil, hRet, hSet, hTset, hPar, parE, hIfe, hExpr, asg, asgs, gTup, gLst, gBin, gIx, gVar, gGlo, isCon, gNeg, gNo, gCmp, gCmp2, gIfe, gAnd, gOr, gCall, gBi, gIsi, isT, isCel, gSl, gPart, ixP, pyIx, gCons, gNil, rd, rdT, truth, binop, binI, cmpop, cmpI, eqOk, dep, deps, eqP, eqPs, biF, mapO, stor, toR, toE, fin, line, noCs, noC, noLr, noL, noLs, lent, isR, noCr, ofR, callP_fnv, seqOf, intsOf, blsOf, minI, maxI, zipP, zipSeq, f27, m24]
theorem m28 : fv (n+6) 28 [t3 x y z, t3 x2 y2 z2] = some (.v (t3 x y (z + (x2 * y - y2 * x)))) := by
  rw [e _ 28 _ f28 rfl]
  simp [run, exs, ex, ev, evs, evB, evO, evC, evI, hCons, hNil, hRet, hSet, hTset, hPar, parE, hIfe, hExpr, asg, asgs, gTup, gLst, gBin, gIx, gVar, gGlo, isCon, gNeg, gNo, gCmp, gCmp2, gIfe, gAnd, gOr, gCall, gBi, gIsi, isT, isCel, gSl, gPart, ixP, pyIx, gCons, gNil, rd, rdT, truth, binop, binI, cmpop, cmpI, eqOk, dep, deps, eqP, eqPs, biF, mapO, stor, toR, toE, fin, line, noCs, noC, noLr, noL, noLs, lent, isR, noCr, ofR, callP_fnv, seqOf, intsOf, blsOf, minI, maxI, zipP, zipSeq, f28, m16, m27]
theorem m43 : fv (n+6) 43 [t3 x y z, t3 x2 y2 z2] = some (.v (.bl (decide (x * y2 - y * x2 = 0)))) := by
  rw [e _ 43 _ f43 rfl]
  simp [run, exs, ex, ev, evs, evB, evO, evC, evI, hCons, hNil, hRet, hSet, hTset, hPar, parE, hIfe, hExpr, asg, asgs, gTup, gLst, gBin, gIx, gVar, gGlo, isCon, gNeg, gNo, gCmp, gCmp2, gIfe, gAnd, gOr, gCall, gBi, gIsi, isT, isCel, gSl, gPart, ixP, pyIx, gCons, gNil, rd, rdT, truth, binop, binI, cmpop, cmpI, eqOk, dep, deps, eqP, eqPs, biF, mapO, stor, toR, toE, fin, line, noCs, noC, noLr, noL, noLs, lent, isR, noCr, ofR, callP_fnv, seqOf, intsOf, blsOf, minI, maxI, zipP, zipSeq, f43, m16, m24]
end A71

set_option linter.all false
set_option maxRecDepth 100000
set_option maxHeartbeats 4000000
namespace A71
open Py
instance B2.fdiv {i j : Int} [b : B2 i] : B2 (i.fdiv j) := ⟨Nat.lt_of_le_of_lt (natAbs_fdiv_le i j) b.h⟩
instance instGc {x y : Int} [B2 x] [B2 y] : B2 (gc x y) := B2.of (a := 200) (by decide)
instance B2.neg {i : Int} [b : B2 i] : B2 (-i) := ⟨by rw [Int.natAbs_neg]; exact b.h⟩
/-! ### calls that raise, and a def that hears it -/
theorem heard_some {n i : Nat} {xs : List PV} {v : PV} (h : fv n i xs = some (.v v)) : fv (n+1) (i+far2) xs = some (.v v) := by
  unfold fv fnv at h ⊢
  rw [call_heard (by decide)]
  unfold runH
  cases q : call G fs 5000 n i (xs.map .v) [] with
  | none => rw [q] at h; cases h
  | some p =>
    rw [q] at h
    obtain ⟨rv, S'⟩ := p
    have h : some rv = some (.v v) := h
    cases h
    rfl
theorem heard_none {n i : Nat} {xs : List PV} {S' : Store} (h1 : call G fs 5000 n i (xs.map .v) [] = none) (h2 : call G fs 5000 n (i+far) (xs.map .v) [] = some (.v (.int 0), S')) : fv (n+1) (i+far2) xs = some (.own (.lst heardV)) := by
  unfold fv fnv
  rw [call_heard (by decide)]
  unfold runH
  rw [h1, h2]
  rfl
def rootO (x y z k : Int) : Option (Int × Int × Int) := if x.fmod k = 0 ∧ y.fmod k = 0 ∧ (z - (k * (k - 1)).fdiv 2 * x.fdiv k * y.fdiv k).fmod k = 0 then some (x.fdiv k, y.fdiv k, (z - (k * (k - 1)).fdiv 2 * x.fdiv k * y.fdiv k).fdiv k) else none
def pvO : Option (Int × Int × Int) → PV
  | none => .non
  | some d => t3 d.1 d.2.1 d.2.2
theorem m7g {n : Nat} {x y : Int} {b : Nat} [p : Bd y b] (hb : 2 * b + 1 ≤ 5000) : fv (n+1) 7 [.int x, .int y] = some (.v (.int (gc x y))) := by
  unfold fv fnv
  rw [show List.map EV.v [PV.int x, PV.int y] = [.v (.int x), .v (.int y)] from rfl, common_ok (k := b) (T := fs) rfl x y p.h hb]
  rfl
theorem ab (z : Int) : (if z < 0 then -z else z) = ((z.natAbs : Nat) : Int) := by split <;> omega
variable (n : Nat) (x y z x2 y2 z2 k : Int) [B2 x] [B2 y] [B2 z] [B2 x2] [B2 y2] [B2 z2] [B2 k]
theorem m29 (hk : k ≠ 0) : fv (n+2) 29 [t3 x y z, .int k] = some (.v (pvO (rootO x y z k))) := by
  rw [e _ 29 _ f29 rfl]
  unfold rootO
  have lk := lgB (i := k)
  by_cases h1 : x.fmod k = 0
  · by_cases h2 : y.fmod k = 0
    · by_cases h3 : (z - (k * (k - 1)).fdiv 2 * x.fdiv k * y.fdiv k).fmod k = 0
      · simp (decide := true) [run, exs, ex, ev, evs, evB, evO, evC, evI, hCons, hNil, hRet, hSet, hTset, hPar, parE, hIfe, hExpr, asg, asgs, gTup, gLst, gBin, gIx, gVar, gGlo, isCon, gNeg, gNo, gCmp, gCmp2, gIfe, gAnd, gOr, gCall, gBi, gIsi, isT, isCel, gSl, gPart, ixP, pyIx, gCons, gNil, rd, rdT, truth, binop, binI, cmpop, cmpI, eqOk, dep, deps, eqP, eqPs, biF, mapO, stor, toR, toE, fin, line, noCs, noC, noLr, noL, noLs, lent, isR, noCr, ofR, callP_fnv, seqOf, intsOf, blsOf, minI, maxI, zipP, zipSeq, f29, m11, mulOk_bd, hk, lk, h1, h2, h3, pvO]
      · simp (decide := true) [run, exs, ex, ev, evs, evB, evO, evC, evI, hCons, hNil, hRet, hSet, hTset, hPar, parE, hIfe, hExpr, asg, asgs, gTup, gLst, gBin, gIx, gVar, gGlo, isCon, gNeg, gNo, gCmp, gCmp2, gIfe, gAnd, gOr, gCall, gBi, gIsi, isT, isCel, gSl, gPart, ixP, pyIx, gCons, gNil, rd, rdT, truth, binop, binI, cmpop, cmpI, eqOk, dep, deps, eqP, eqPs, biF, mapO, stor, toR, toE, fin, line, noCs, noC, noLr, noL, noLs, lent, isR, noCr, ofR, callP_fnv, seqOf, intsOf, blsOf, minI, maxI, zipP, zipSeq, f29, m11, mulOk_bd, hk, lk, h1, h2, h3, pvO]
    · simp (decide := true) [run, exs, ex, ev, evs, evB, evO, evC, evI, hCons, hNil, hRet, hSet, hTset, hPar, parE, hIfe, hExpr, asg, asgs, gTup, gLst, gBin, gIx, gVar, gGlo, isCon, gNeg, gNo, gCmp, gCmp2, gIfe, gAnd, gOr, gCall, gBi, gIsi, isT, isCel, gSl, gPart, ixP, pyIx, gCons, gNil, rd, rdT, truth, binop, binI, cmpop, cmpI, eqOk, dep, deps, eqP, eqPs, biF, mapO, stor, toR, toE, fin, line, noCs, noC, noLr, noL, noLs, lent, isR, noCr, ofR, callP_fnv, seqOf, intsOf, blsOf, minI, maxI, zipP, zipSeq, f29, m11, mulOk_bd, hk, lk, h1, h2, pvO]
  · simp (decide := true) [run, exs, ex, ev, evs, evB, evO, evC, evI, hCons, hNil, hRet, hSet, hTset, hPar, parE, hIfe, hExpr, asg, asgs, gTup, gLst, gBin, gIx, gVar, gGlo, isCon, gNeg, gNo, gCmp, gCmp2, gIfe, gAnd, gOr, gCall, gBi, gIsi, isT, isCel, gSl, gPart, ixP, pyIx, gCons, gNil, rd, rdT, truth, binop, binI, cmpop, cmpI, eqOk, dep, deps, eqP, eqPs, biF, mapO, stor, toR, toE, fin, line, noCs, noC, noLr, noL, noLs, lent, isR, noCr, ofR, callP_fnv, seqOf, intsOf, blsOf, minI, maxI, zipP, zipSeq, f29, m11, mulOk_bd, hk, lk, h1, pvO]
theorem pvO_is (o : Option (Int × Int × Int)) : cmpop .isnot (pvO o) .non = some o.isSome := by
  cases o <;> rfl
theorem noC_pvO (o : Option (Int × Int × Int)) : noC (pvO o) = true := by cases o <;> rfl
theorem noL_pvO (o : Option (Int × Int × Int)) : noL (pvO o) = true := by cases o <;> rfl
theorem m30 (hk : 1 ≤ k) : fv (n+6) 30 [t3 x y z, .int k] = some (.v (.bl (rootO x y z k).isSome)) := by
  rw [e _ 30 _ f30 rfl]
  have h := m29 (n+3) x y z k (by omega)
  cases q : rootO x y z k with
  | none =>
    rw [q] at h
    simp [run, exs, ex, ev, evs, evB, evO, evC, evI, hCons, hNil, hRet, hSet, hTset, hPar, parE, hIfe, hExpr, asg, asgs, gTup, gLst, gBin, gIx, gVar, gGlo, isCon, gNeg, gNo, gCmp, gCmp2, gIfe, gAnd, gOr, gCall, gBi, gIsi, isT, isCel, gSl, gPart, ixP, pyIx, gCons, gNil, rd, rdT, truth, binop, binI, cmpop, cmpI, eqOk, dep, deps, eqP, eqPs, biF, mapO, stor, toR, toE, fin, line, noCs, noC, noLr, noL, noLs, lent, isR, noCr, ofR, callP_fnv, seqOf, intsOf, blsOf, minI, maxI, zipP, zipSeq, f30, m16, m9 _ _ hk, h, pvO]
  | some d =>
    rw [q] at h
    simp [run, exs, ex, ev, evs, evB, evO, evC, evI, hCons, hNil, hRet, hSet, hTset, hPar, parE, hIfe, hExpr, asg, asgs, gTup, gLst, gBin, gIx, gVar, gGlo, isCon, gNeg, gNo, gCmp, gCmp2, gIfe, gAnd, gOr, gCall, gBi, gIsi, isT, isCel, gSl, gPart, ixP, pyIx, gCons, gNil, rd, rdT, truth, binop, binI, cmpop, cmpI, eqOk, dep, deps, eqP, eqPs, biF, mapO, stor, toR, toE, fin, line, noCs, noC, noLr, noL, noLs, lent, isR, noCr, ofR, callP_fnv, seqOf, intsOf, blsOf, minI, maxI, zipP, zipSeq, f30, m16, m9 _ _ hk, h, pvO]
theorem m31 (hk : 1 ≤ k) {d : Int × Int × Int} (hd : rootO x y z k = some d) : fv (n+6) 31 [t3 x y z, .int k] = some (.v (t3 d.1 d.2.1 d.2.2)) := by
  rw [e _ 31 _ f31 rfl]
  have h := m29 (n+3) x y z k (by omega)
  rw [hd] at h
  simp [run, exs, ex, ev, evs, evB, evO, evC, evI, hCons, hNil, hRet, hSet, hTset, hPar, parE, hIfe, hExpr, asg, asgs, gTup, gLst, gBin, gIx, gVar, gGlo, isCon, gNeg, gNo, gCmp, gCmp2, gIfe, gAnd, gOr, gCall, gBi, gIsi, isT, isCel, gSl, gPart, ixP, pyIx, gCons, gNil, rd, rdT, truth, binop, binI, cmpop, cmpI, eqOk, dep, deps, eqP, eqPs, biF, mapO, stor, toR, toE, fin, line, noCs, noC, noLr, noL, noLs, lent, isR, noCr, ofR, callP_fnv, seqOf, intsOf, blsOf, minI, maxI, zipP, zipSeq, f31, m16, m9 _ _ hk, h, pvO]
theorem m31n (hk : 1 ≤ k) (hd : rootO x y z k = none) : call G fs 5000 (n+6) 31 [.v (t3 x y z), .v (.int k)] [] = none := by
  rw [call_run (F := f31) rfl]
  have h := m29 (n+3) x y z k (by omega)
  rw [hd] at h
  simp [run, exs, ex, ev, evs, evB, evO, evC, evI, hCons, hNil, hRet, hSet, hTset, hPar, parE, hIfe, hExpr, asg, asgs, gTup, gLst, gBin, gIx, gVar, gGlo, isCon, gNeg, gNo, gCmp, gCmp2, gIfe, gAnd, gOr, gCall, gBi, gIsi, isT, isCel, gSl, gPart, ixP, pyIx, gCons, gNil, rd, rdT, truth, binop, binI, cmpop, cmpI, eqOk, dep, deps, eqP, eqPs, biF, mapO, stor, toR, toE, fin, line, noCs, noC, noLr, noL, noLs, lent, isR, noCr, ofR, callP_fnv, seqOf, intsOf, blsOf, minI, maxI, zipP, zipSeq, f31, m16, m9 _ _ hk, h, pvO, hRais]
theorem m31x (hk : 1 ≤ k) (hd : rootO x y z k = none) : ∃ S', call G fs 5000 (n+6) (31+far) [.v (t3 x y z), .v (.int k)] [] = some (.v (.int 0), S') := by
  rw [call_far (F := f31) (by decide) rfl]
  have h := m29 (n+3) x y z k (by omega)
  rw [hd] at h
  simp [run, exs, ex, ev, evs, evB, evO, evC, evI, hCons, hNil, hRet, hSet, hTset, hPar, parE, hIfe, hExpr, asg, asgs, gTup, gLst, gBin, gIx, gVar, gGlo, isCon, gNeg, gNo, gCmp, gCmp2, gIfe, gAnd, gOr, gCall, gBi, gIsi, isT, isCel, gSl, gPart, ixP, pyIx, gCons, gNil, rd, rdT, truth, binop, binI, cmpop, cmpI, eqOk, dep, deps, eqP, eqPs, biF, mapO, stor, toR, toE, fin, line, noCs, noC, noLr, noL, noLs, lent, isR, noCr, ofR, callP_fnv, seqOf, intsOf, blsOf, minI, maxI, zipP, zipSeq, f31, m16, m9 _ _ hk, h, pvO, hRais, runX]
theorem h31 (hk : 1 ≤ k) : fv (n+7) (31+far2) [t3 x y z, .int k] = some (match rootO x y z k with | some d => .v (t3 d.1 d.2.1 d.2.2) | none => .own (.lst heardV)) := by
  cases q : rootO x y z k with
  | none =>
    obtain ⟨S', h⟩ := m31x n x y z k hk q
    exact heard_none (m31n n x y z k hk q) h
  | some d => exact heard_some (m31 n x y z k hk q)
/-! ### the greatest root -/
def mostI (x y z : Int) : Int := if x = 0 ∧ y = 0 then ((z.natAbs : Nat) : Int) else if (x.fdiv (gc x y) * y.fdiv (gc x y)).fmod 2 = 0 then gc (gc x y) ((2 * z - x * y).fdiv 2) else gc (gc x y) ((2 * z - x * y - gc x y).fdiv 2)
theorem gc_pos {x y : Int} (h : ¬ (x = 0 ∧ y = 0)) : 0 < gc x y := by
  have : Nat.gcd x.natAbs y.natAbs ≠ 0 := fun q => by
    have := Nat.gcd_eq_zero_iff.mp q
    exact h ⟨by omega, by omega⟩
  show (0 : Int) < ((Nat.gcd x.natAbs y.natAbs : Nat) : Int)
  omega
theorem m32 : fv (n+2) 32 [t3 x y z] = some (.v (.int (mostI x y z))) := by
  rw [e _ 32 _ f32 rfl]
  unfold mostI
  by_cases c : x = 0 ∧ y = 0
  · have h1 := ab z
    obtain ⟨c1, c2⟩ := c
    simp [run, exs, ex, ev, evs, evB, evO, evC, evI, hCons, hNil, hRet, hSet, hTset, hPar, parE, hIfe, hExpr, asg, asgs, gTup, gLst, gBin, gIx, gVar, gGlo, isCon, gNeg, gNo, gCmp, gCmp2, gIfe, gAnd, gOr, gCall, gBi, gIsi, isT, isCel, gSl, gPart, ixP, pyIx, gCons, gNil, rd, rdT, truth, binop, binI, cmpop, cmpI, eqOk, dep, deps, eqP, eqPs, biF, mapO, stor, toR, toE, fin, line, noCs, noC, noLr, noL, noLs, lent, isR, noCr, ofR, callP_fnv, seqOf, intsOf, blsOf, minI, maxI, zipP, zipSeq, f32, c1, c2, h1]
  · have c2 : (decide (x = 0) && decide (y = 0)) = false := by simpa using fun a b => c ⟨a, b⟩
    have gp := gc_pos c
    have g0 : ¬ gc x y = 0 := by omega
    have lg0 : (x.natAbs.gcd y.natAbs).log2 < 9000 := lgB (i := gc x y)
    by_cases c3 : (x.fdiv (gc x y) * y.fdiv (gc x y)).fmod 2 = 0
    · simp (decide := true) [run, exs, ex, ev, evs, evB, evO, evC, evI, hCons, hNil, hRet, hSet, hTset, hPar, parE, hIfe, hExpr, asg, asgs, gTup, gLst, gBin, gIx, gVar, gGlo, isCon, gNeg, gNo, gCmp, gCmp2, gIfe, gAnd, gOr, gCall, gBi, gIsi, isT, isCel, gSl, gPart, ixP, pyIx, gCons, gNil, rd, rdT, truth, binop, binI, cmpop, cmpI, eqOk, dep, deps, eqP, eqPs, biF, mapO, stor, toR, toE, fin, line, noCs, noC, noLr, noL, noLs, lent, isR, noCr, ofR, callP_fnv, seqOf, intsOf, blsOf, minI, maxI, zipP, zipSeq, f32, c, c2, c3, m7, m7g, g0, lg0, mulOk_bd, l2]
    · simp (decide := true) [run, exs, ex, ev, evs, evB, evO, evC, evI, hCons, hNil, hRet, hSet, hTset, hPar, parE, hIfe, hExpr, asg, asgs, gTup, gLst, gBin, gIx, gVar, gGlo, isCon, gNeg, gNo, gCmp, gCmp2, gIfe, gAnd, gOr, gCall, gBi, gIsi, isT, isCel, gSl, gPart, ixP, pyIx, gCons, gNil, rd, rdT, truth, binop, binI, cmpop, cmpI, eqOk, dep, deps, eqP, eqPs, biF, mapO, stor, toR, toE, fin, line, noCs, noC, noLr, noL, noLs, lent, isR, noCr, ofR, callP_fnv, seqOf, intsOf, blsOf, minI, maxI, zipP, zipSeq, f32, c, c2, c3, m7, m7g, g0, lg0, mulOk_bd, l2]
theorem most_pos (h : ¬ (x = 0 ∧ y = 0 ∧ z = 0)) : 0 < mostI x y z := by
  unfold mostI
  by_cases c : x = 0 ∧ y = 0
  · rw [if_pos c]
    have : z ≠ 0 := fun q => h ⟨c.1, c.2, q⟩
    omega
  · rw [if_neg c]
    have gp := gc_pos c
    split
    · exact gc_pos fun q => by omega
    · exact gc_pos fun q => by omega
instance B2.most : B2 (mostI x y z) := ⟨by
  unfold mostI
  by_cases c : x = 0 ∧ y = 0
  · rw [if_pos c]
    have := B2.h (i := z)
    omega
  · rw [if_neg c]
    have gp := gc_pos c
    have gb := B2.h (i := gc x y)
    have le : ∀ w : Int, (gc (gc x y) w).natAbs ≤ (gc x y).natAbs := fun w => by
      show ((Nat.gcd (gc x y).natAbs w.natAbs : Nat) : Int).natAbs ≤ _
      have := Nat.gcd_le_left w.natAbs (show 0 < (gc x y).natAbs by omega)
      omega
    split
    · exact Nat.lt_of_le_of_lt (le _) gb
    · exact Nat.lt_of_le_of_lt (le _) gb⟩
theorem m33 (h : ¬ (x = 0 ∧ y = 0 ∧ z = 0)) : fv (n+6) 33 [t3 x y z] = some (.v (.tup [.int (mostI x y z), pvO (rootO x y z (mostI x y z))])) := by
  rw [e _ 33 _ f33 rfl]
  have hp := most_pos x y z h
  have h29 := m29 (n+3) x y z (mostI x y z) (by omega)
  have c : (decide (x = 0) && (decide (y = 0) && decide (z = 0))) = false := by simpa using fun a b c => h ⟨a, b, c⟩
  have s1 : stor (.v (pvO (rootO x y z (mostI x y z)))) = some (pvO (rootO x y z (mostI x y z))) := rfl
  simp [run, exs, ex, ev, evs, evB, evO, evC, evI, hCons, hNil, hRet, hSet, hTset, hPar, parE, hIfe, hExpr, asg, asgs, gTup, gLst, gBin, gIx, gVar, gGlo, isCon, gNeg, gNo, gCmp, gCmp2, gIfe, gAnd, gOr, gCall, gBi, gIsi, isT, isCel, gSl, gPart, ixP, pyIx, gCons, gNil, rd, rdT, truth, binop, binI, cmpop, cmpI, eqOk, dep, deps, eqP, eqPs, biF, mapO, stor, toR, toE, fin, line, noCs, noC, noLr, noL, noLs, lent, isR, noCr, ofR, callP_fnv, seqOf, intsOf, blsOf, minI, maxI, zipP, zipSeq, f33, m16, m32, h29, c, noC_pvO, noL_pvO]
/-! ### how often -/
def chkT (x y z X Y Z m : Int) : Option Int := if m * x = X ∧ m * y = Y ∧ m * z + (m * (m - 1)).fdiv 2 * x * y = Z then some m else none
def timesO (x y z X Y Z : Int) : Option Int := if x ≠ 0 then chkT x y z X Y Z (X.fdiv x) else if y ≠ 0 then chkT x y z X Y Z (Y.fdiv y) else if z ≠ 0 then chkT x y z X Y Z (Z.fdiv z) else if X = 0 ∧ Y = 0 ∧ Z = 0 then some 0 else none
theorem eq3 (a b c a2 b2 c2 : Int) : eqP (t3 a b c) (t3 a2 b2 c2) = decide (a = a2 ∧ b = b2 ∧ c = c2) := by simp [eqP, eqPs]
theorem eqI (a b : Int) : eqP (.int a) (.int b) = decide (a = b) := by simp [eqP]
/-- what the body of times_to comes to -/
theorem t34 (C : Ora) (hC : C = call G fs 5000 (n+5)) : (exs G C 5000 f34.body [some (.v (t3 x y z)), some (.v (t3 x2 y2 z2)), none, none, none, none] []).map (fun q => (q.1, q.2.2)) = some (match timesO x y z x2 y2 z2 with | some m => .ret (.v (.int m)) | none => .exc 0, []) := by
  subst hC
  have lx := lgB (i := x)
  have ly := lgB (i := y)
  have lz := lgB (i := z)
  unfold timesO
  by_cases h1 : x = 0
  · by_cases h2 : y = 0
    · by_cases h3 : z = 0
      · by_cases h4 : x2 = 0 ∧ y2 = 0 ∧ z2 = 0
        · obtain ⟨a1, a2, a3⟩ := h4
          simp [run, exs, ex, ev, evs, evB, evO, evC, evI, hCons, hNil, hRet, hSet, hTset, hPar, parE, hIfe, hExpr, asg, asgs, gTup, gLst, gBin, gIx, gVar, gGlo, isCon, gNeg, gNo, gCmp, gCmp2, gIfe, gAnd, gOr, gCall, gBi, gIsi, isT, isCel, gSl, gPart, ixP, pyIx, gCons, gNil, rd, rdT, truth, binop, binI, cmpop, cmpI, eqOk, dep, deps, eqP, eqPs, biF, mapO, stor, toR, toE, fin, line, noCs, noC, noLr, noL, noLs, lent, isR, noCr, ofR, callP_fnv, seqOf, intsOf, blsOf, minI, maxI, zipP, zipSeq, f34, m16, h1, h2, h3, a1, a2, a3, hFor, gVal, itemsOf, forL, hTurn, lock, unlock]
        · have c : (decide (x2 = 0) && (decide (y2 = 0) && decide (z2 = 0))) = false := by simpa using fun a b c => h4 ⟨a, b, c⟩
          simp [run, exs, ex, ev, evs, evB, evO, evC, evI, hCons, hNil, hRet, hSet, hTset, hPar, parE, hIfe, hExpr, asg, asgs, gTup, gLst, gBin, gIx, gVar, gGlo, isCon, gNeg, gNo, gCmp, gCmp2, gIfe, gAnd, gOr, gCall, gBi, gIsi, isT, isCel, gSl, gPart, ixP, pyIx, gCons, gNil, rd, rdT, truth, binop, binI, cmpop, cmpI, eqOk, dep, deps, eqP, eqPs, biF, mapO, stor, toR, toE, fin, line, noCs, noC, noLr, noL, noLs, lent, isR, noCr, ofR, callP_fnv, seqOf, intsOf, blsOf, minI, maxI, zipP, zipSeq, f34, m16, h1, h2, h3, h4, c, hRais, hFor, gVal, itemsOf, forL, hTurn, lock, unlock]
      · rw [if_neg (fun q => q h1), if_neg (fun q => q h2), if_pos h3]
        have h22 := m22 (n+3) x y z (z2.fdiv z)
        have e3 := eq3 (z2.fdiv z * x) (z2.fdiv z * y) (z2.fdiv z * z + (z2.fdiv z * (z2.fdiv z - 1)).fdiv 2 * x * y) x2 y2 z2
        unfold chkT
        subst h1 h2
        by_cases c : z2.fdiv z * 0 = x2 ∧ z2.fdiv z * 0 = y2 ∧ z2.fdiv z * z + (z2.fdiv z * (z2.fdiv z - 1)).fdiv 2 * 0 * 0 = z2
        · rw [if_pos c]
          rw [decide_eq_true c] at e3
          simp [run, exs, ex, ev, evs, evB, evO, evC, evI, hCons, hNil, hRet, hSet, hTset, hPar, parE, hIfe, hExpr, asg, asgs, gTup, gLst, gBin, gIx, gVar, gGlo, isCon, gNeg, gNo, gCmp, gCmp2, gIfe, gAnd, gOr, gCall, gBi, gIsi, isT, isCel, gSl, gPart, ixP, pyIx, gCons, gNil, rd, rdT, truth, binop, binI, cmpop, cmpI, eqOk, dep, deps, biF, mapO, stor, toR, toE, fin, line, noCs, noC, noLr, noL, noLs, lent, isR, noCr, ofR, callP_fnv, seqOf, intsOf, blsOf, minI, maxI, zipP, zipSeq, hRais, hFor, gVal, itemsOf, forL, hTurn, lock, unlock, f34, eqI, m16, h22, e3, h3, lz]
        · rw [if_neg c]
          rw [decide_eq_false c] at e3
          simp [run, exs, ex, ev, evs, evB, evO, evC, evI, hCons, hNil, hRet, hSet, hTset, hPar, parE, hIfe, hExpr, asg, asgs, gTup, gLst, gBin, gIx, gVar, gGlo, isCon, gNeg, gNo, gCmp, gCmp2, gIfe, gAnd, gOr, gCall, gBi, gIsi, isT, isCel, gSl, gPart, ixP, pyIx, gCons, gNil, rd, rdT, truth, binop, binI, cmpop, cmpI, eqOk, dep, deps, biF, mapO, stor, toR, toE, fin, line, noCs, noC, noLr, noL, noLs, lent, isR, noCr, ofR, callP_fnv, seqOf, intsOf, blsOf, minI, maxI, zipP, zipSeq, hRais, hFor, gVal, itemsOf, forL, hTurn, lock, unlock, f34, eqI, m16, h22, e3, h3, lz]
    · rw [if_neg (fun q => q h1), if_pos h2]
      have h22 := m22 (n+3) x y z (y2.fdiv y)
      have e3 := eq3 (y2.fdiv y * x) (y2.fdiv y * y) (y2.fdiv y * z + (y2.fdiv y * (y2.fdiv y - 1)).fdiv 2 * x * y) x2 y2 z2
      unfold chkT
      subst h1
      by_cases c : y2.fdiv y * 0 = x2 ∧ y2.fdiv y * y = y2 ∧ y2.fdiv y * z + (y2.fdiv y * (y2.fdiv y - 1)).fdiv 2 * 0 * y = z2
      · rw [if_pos c]
        rw [decide_eq_true c] at e3
        simp [run, exs, ex, ev, evs, evB, evO, evC, evI, hCons, hNil, hRet, hSet, hTset, hPar, parE, hIfe, hExpr, asg, asgs, gTup, gLst, gBin, gIx, gVar, gGlo, isCon, gNeg, gNo, gCmp, gCmp2, gIfe, gAnd, gOr, gCall, gBi, gIsi, isT, isCel, gSl, gPart, ixP, pyIx, gCons, gNil, rd, rdT, truth, binop, binI, cmpop, cmpI, eqOk, dep, deps, biF, mapO, stor, toR, toE, fin, line, noCs, noC, noLr, noL, noLs, lent, isR, noCr, ofR, callP_fnv, seqOf, intsOf, blsOf, minI, maxI, zipP, zipSeq, hRais, hFor, gVal, itemsOf, forL, hTurn, lock, unlock, f34, eqI, m16, h22, e3, h2, ly]
      · rw [if_neg c]
        rw [decide_eq_false c] at e3
        simp [run, exs, ex, ev, evs, evB, evO, evC, evI, hCons, hNil, hRet, hSet, hTset, hPar, parE, hIfe, hExpr, asg, asgs, gTup, gLst, gBin, gIx, gVar, gGlo, isCon, gNeg, gNo, gCmp, gCmp2, gIfe, gAnd, gOr, gCall, gBi, gIsi, isT, isCel, gSl, gPart, ixP, pyIx, gCons, gNil, rd, rdT, truth, binop, binI, cmpop, cmpI, eqOk, dep, deps, biF, mapO, stor, toR, toE, fin, line, noCs, noC, noLr, noL, noLs, lent, isR, noCr, ofR, callP_fnv, seqOf, intsOf, blsOf, minI, maxI, zipP, zipSeq, hRais, hFor, gVal, itemsOf, forL, hTurn, lock, unlock, f34, eqI, m16, h22, e3, h2, ly]
  · rw [if_pos h1]
    have h22 := m22 (n+3) x y z (x2.fdiv x)
    have e3 := eq3 (x2.fdiv x * x) (x2.fdiv x * y) (x2.fdiv x * z + (x2.fdiv x * (x2.fdiv x - 1)).fdiv 2 * x * y) x2 y2 z2
    unfold chkT
    by_cases c : x2.fdiv x * x = x2 ∧ x2.fdiv x * y = y2 ∧ x2.fdiv x * z + (x2.fdiv x * (x2.fdiv x - 1)).fdiv 2 * x * y = z2
    · rw [if_pos c]
      rw [decide_eq_true c] at e3
      simp [run, exs, ex, ev, evs, evB, evO, evC, evI, hCons, hNil, hRet, hSet, hTset, hPar, parE, hIfe, hExpr, asg, asgs, gTup, gLst, gBin, gIx, gVar, gGlo, isCon, gNeg, gNo, gCmp, gCmp2, gIfe, gAnd, gOr, gCall, gBi, gIsi, isT, isCel, gSl, gPart, ixP, pyIx, gCons, gNil, rd, rdT, truth, binop, binI, cmpop, cmpI, eqOk, dep, deps, biF, mapO, stor, toR, toE, fin, line, noCs, noC, noLr, noL, noLs, lent, isR, noCr, ofR, callP_fnv, seqOf, intsOf, blsOf, minI, maxI, zipP, zipSeq, hRais, hFor, gVal, itemsOf, forL, hTurn, lock, unlock, f34, eqI, m16, h22, e3, h1, lx]
    · rw [if_neg c]
      rw [decide_eq_false c] at e3
      simp [run, exs, ex, ev, evs, evB, evO, evC, evI, hCons, hNil, hRet, hSet, hTset, hPar, parE, hIfe, hExpr, asg, asgs, gTup, gLst, gBin, gIx, gVar, gGlo, isCon, gNeg, gNo, gCmp, gCmp2, gIfe, gAnd, gOr, gCall, gBi, gIsi, isT, isCel, gSl, gPart, ixP, pyIx, gCons, gNil, rd, rdT, truth, binop, binI, cmpop, cmpI, eqOk, dep, deps, biF, mapO, stor, toR, toE, fin, line, noCs, noC, noLr, noL, noLs, lent, isR, noCr, ofR, callP_fnv, seqOf, intsOf, blsOf, minI, maxI, zipP, zipSeq, hRais, hFor, gVal, itemsOf, forL, hTurn, lock, unlock, f34, eqI, m16, h22, e3, h1, lx]
theorem exs_of {G : List PV} {C : Ora} {w : Nat} {b : List Stm} {E : Env} {S S' : Store} {fl : Fl} (h : (exs G C w b E S).map (fun q => (q.1, q.2.2)) = some (fl, S')) : ∃ E', exs G C w b E S = some (fl, E', S') := by
  cases q : exs G C w b E S with
  | none => rw [q] at h; cases h
  | some p =>
    rw [q] at h
    obtain ⟨a, b, c⟩ := p
    simp only [Option.map_some, Option.some.injEq, Prod.mk.injEq] at h
    obtain ⟨rfl, rfl⟩ := h
    exact ⟨_, rfl⟩
theorem m34 {m : Int} (h : timesO x y z x2 y2 z2 = some m) : fv (n+6) 34 [t3 x y z, t3 x2 y2 z2] = some (.v (.int m)) := by
  have q := t34 n x y z x2 y2 z2 _ rfl
  rw [h] at q
  obtain ⟨E, q⟩ := exs_of q
  rw [e _ 34 _ f34 rfl]
  show (run G _ 5000 f34 [.v (t3 x y z), .v (t3 x2 y2 z2)] []).map _ = _
  unfold run
  show (match exs G (call G fs 5000 (n+5)) 5000 f34.body [some (.v (t3 x y z)), some (.v (t3 x2 y2 z2)), none, none, none, none] [] with
    | some (.next, _, S1) => some (RV.v .non, S1)
    | some (.ret v, _, S1) => fin 0 S1 v
    | _ => none).map _ = _
  rw [q]
  rfl
theorem m34n (h : timesO x y z x2 y2 z2 = none) : call G fs 5000 (n+6) 34 [.v (t3 x y z), .v (t3 x2 y2 z2)] [] = none := by
  have q := t34 n x y z x2 y2 z2 _ rfl
  rw [h] at q
  obtain ⟨E, q⟩ := exs_of q
  rw [call_run (F := f34) rfl]
  unfold run
  show (match exs G (call G fs 5000 (n+5)) 5000 f34.body [some (.v (t3 x y z)), some (.v (t3 x2 y2 z2)), none, none, none, none] [] with
    | some (.next, _, S1) => some (RV.v .non, S1)
    | some (.ret v, _, S1) => fin 0 S1 v
    | _ => none) = _
  rw [q]
theorem m34x (h : timesO x y z x2 y2 z2 = none) : call G fs 5000 (n+6) (34+far) [.v (t3 x y z), .v (t3 x2 y2 z2)] [] = some (.v (.int 0), []) := by
  have q := t34 n x y z x2 y2 z2 _ rfl
  rw [h] at q
  obtain ⟨E, q⟩ := exs_of q
  rw [call_far (F := f34) (by decide) rfl]
  unfold runX
  show (match exs G (call G fs 5000 (n+5)) 5000 f34.body [some (.v (t3 x y z)), some (.v (t3 x2 y2 z2)), none, none, none, none] [] with
    | some (.exc c, _, S1) => some (RV.v (.int c), S1)
    | _ => none) = _
  rw [q]
  rfl
theorem h34 : fv (n+7) (34+far2) [t3 x y z, t3 x2 y2 z2] = some (match timesO x y z x2 y2 z2 with | some m => .v (.int m) | none => .own (.lst heardV)) := by
  cases q : timesO x y z x2 y2 z2 with
  | none => exact heard_none (m34n n x y z x2 y2 z2 q) (m34x n x y z x2 y2 z2 q)
  | some d => exact heard_some (m34 n x y z x2 y2 z2 q)
theorem m35 : fv (n+7) 35 [t3 x y z, t3 x2 y2 z2] = some (.v (.bl (timesO x y z x2 y2 z2).isSome)) := by
  rw [e _ 35 _ f35 rfl]
  cases q : timesO x y z x2 y2 z2 with
  | none =>
    have h1 := m34n n x y z x2 y2 z2 q
    have h2 := m34x n x y z x2 y2 z2 q
    simp [run, exs, ex, ev, evs, evB, evO, evC, evI, hCons, hNil, hRet, hSet, hTset, hPar, parE, hIfe, hExpr, asg, asgs, gTup, gLst, gBin, gIx, gVar, gGlo, isCon, gNeg, gNo, gCmp, gCmp2, gIfe, gAnd, gOr, gCall, gBi, gIsi, isT, isCel, gSl, gPart, ixP, pyIx, gCons, gNil, rd, rdT, truth, binop, binI, cmpop, cmpI, eqOk, dep, deps, eqP, eqPs, biF, mapO, stor, toR, toE, fin, line, noCs, noC, noLr, noL, noLs, lent, isR, noCr, ofR, callP_fnv, seqOf, intsOf, blsOf, minI, maxI, zipP, zipSeq, f35, hTryc, h1, h2]
  | some m =>
    have h := m34 n x y z x2 y2 z2 q
    obtain ⟨p, hp, hp2⟩ := Option.map_eq_some_iff.mp (show (call G fs 5000 (n+6) 34 [.v (t3 x y z), .v (t3 x2 y2 z2)] []).map (·.1) = some (.v (.int m)) from h)
    simp [run, exs, ex, ev, evs, evB, evO, evC, evI, hCons, hNil, hRet, hSet, hTset, hPar, parE, hIfe, hExpr, asg, asgs, gTup, gLst, gBin, gIx, gVar, gGlo, isCon, gNeg, gNo, gCmp, gCmp2, gIfe, gAnd, gOr, gCall, gBi, gIsi, isT, isCel, gSl, gPart, ixP, pyIx, gCons, gNil, rd, rdT, truth, binop, binI, cmpop, cmpI, eqOk, dep, deps, eqP, eqPs, biF, mapO, stor, toR, toE, fin, line, noCs, noC, noLr, noL, noLs, lent, isR, noCr, ofR, callP_fnv, seqOf, intsOf, blsOf, minI, maxI, zipP, zipSeq, f35, hTryc, hp]
/-! ### kin -/
def kinB (x y z x2 y2 z2 : Int) : Bool := decide (x = x2 ∧ y = y2) && (if gc x y = 0 then decide (z2 - z = 0) else decide ((z2 - z).fmod (gc x y) = 0))
theorem m36 : fv (n+2) 36 [t3 x y z] = some (.v (.int (gc x y))) := by
  rw [e _ 36 _ f36 rfl]
  simp [run, exs, ex, ev, evs, evB, evO, evC, evI, hCons, hNil, hRet, hSet, hTset, hPar, parE, hIfe, hExpr, asg, asgs, gTup, gLst, gBin, gIx, gVar, gGlo, isCon, gNeg, gNo, gCmp, gCmp2, gIfe, gAnd, gOr, gCall, gBi, gIsi, isT, isCel, gSl, gPart, ixP, pyIx, gCons, gNil, rd, rdT, truth, binop, binI, cmpop, cmpI, eqOk, dep, deps, eqP, eqPs, biF, mapO, stor, toR, toE, fin, line, noCs, noC, noLr, noL, noLs, lent, isR, noCr, ofR, callP_fnv, seqOf, intsOf, blsOf, minI, maxI, zipP, zipSeq, f36, m7]
theorem m36b : fv (n+2) 36 [.tup [.int x, .int y]] = some (.v (.int (gc x y))) := by
  rw [e _ 36 _ f36 rfl]
  simp [run, exs, ex, ev, evs, evB, evO, evC, evI, hCons, hNil, hRet, hSet, hTset, hPar, parE, hIfe, hExpr, asg, asgs, gTup, gLst, gBin, gIx, gVar, gGlo, isCon, gNeg, gNo, gCmp, gCmp2, gIfe, gAnd, gOr, gCall, gBi, gIsi, isT, isCel, gSl, gPart, ixP, pyIx, gCons, gNil, rd, rdT, truth, binop, binI, cmpop, cmpI, eqOk, dep, deps, eqP, eqPs, biF, mapO, stor, toR, toE, fin, line, noCs, noC, noLr, noL, noLs, lent, isR, noCr, ofR, callP_fnv, seqOf, intsOf, blsOf, minI, maxI, zipP, zipSeq, f36, m7]
theorem m37 : fv (n+3) 37 [t3 x y z, t3 x2 y2 z2] = some (.v (.bl (kinB x y z x2 y2 z2))) := by
  rw [e _ 37 _ f37 rfl]
  unfold kinB
  by_cases c : x = x2 ∧ y = y2
  · obtain ⟨c1, c2⟩ := c
    subst c1 c2
    simp [run, exs, ex, ev, evs, evB, evO, evC, evI, hCons, hNil, hRet, hSet, hTset, hPar, parE, hIfe, hExpr, asg, asgs, gTup, gLst, gBin, gIx, gVar, gGlo, isCon, gNeg, gNo, gCmp, gCmp2, gIfe, gAnd, gOr, gCall, gBi, gIsi, isT, isCel, gSl, gPart, ixP, pyIx, gCons, gNil, rd, rdT, truth, binop, binI, cmpop, cmpI, eqOk, dep, deps, eqP, eqPs, biF, mapO, stor, toR, toE, fin, line, noCs, noC, noLr, noL, noLs, lent, isR, noCr, ofR, callP_fnv, seqOf, intsOf, blsOf, minI, maxI, zipP, zipSeq, f37, m36, m14, slP, sIx, cut]
  · have c2 : (decide (x = x2) && decide (y = y2)) = false := by simpa using fun a b => c ⟨a, b⟩
    simp [run, exs, ex, ev, evs, evB, evO, evC, evI, hCons, hNil, hRet, hSet, hTset, hPar, parE, hIfe, hExpr, asg, asgs, gTup, gLst, gBin, gIx, gVar, gGlo, isCon, gNeg, gNo, gCmp, gCmp2, gIfe, gAnd, gOr, gCall, gBi, gIsi, isT, isCel, gSl, gPart, ixP, pyIx, gCons, gNil, rd, rdT, truth, binop, binI, cmpop, cmpI, eqOk, dep, deps, eqP, eqPs, biF, mapO, stor, toR, toE, fin, line, noCs, noC, noLr, noL, noLs, lent, isR, noCr, ofR, callP_fnv, seqOf, intsOf, blsOf, minI, maxI, zipP, zipSeq, f37, m36, m14, slP, sIx, cut, c, c2]
theorem m38 : fv (n+6) 38 [t3 x y z, t3 x2 y2 z2] = some (.v (.bl (kinB x y z x2 y2 z2))) := by
  rw [e _ 38 _ f38 rfl]
  simp [run, exs, ex, ev, evs, evB, evO, evC, evI, hCons, hNil, hRet, hSet, hTset, hPar, parE, hIfe, hExpr, asg, asgs, gTup, gLst, gBin, gIx, gVar, gGlo, isCon, gNeg, gNo, gCmp, gCmp2, gIfe, gAnd, gOr, gCall, gBi, gIsi, isT, isCel, gSl, gPart, ixP, pyIx, gCons, gNil, rd, rdT, truth, binop, binI, cmpop, cmpI, eqOk, dep, deps, eqP, eqPs, biF, mapO, stor, toR, toE, fin, line, noCs, noC, noLr, noL, noLs, lent, isR, noCr, ofR, callP_fnv, seqOf, intsOf, blsOf, minI, maxI, zipP, zipSeq, f38, m16, m37]
theorem m39 : fv (n+6) 39 [t3 x y z] = some (.v (t3 x y (if x = 0 ∧ y = 0 then z else z.fmod (gc x y)))) := by
  rw [e _ 39 _ f39 rfl]
  by_cases c : x = 0 ∧ y = 0
  · have h1 := ab z
    obtain ⟨c1, c2⟩ := c
    simp [run, exs, ex, ev, evs, evB, evO, evC, evI, hCons, hNil, hRet, hSet, hTset, hPar, parE, hIfe, hExpr, asg, asgs, gTup, gLst, gBin, gIx, gVar, gGlo, isCon, gNeg, gNo, gCmp, gCmp2, gIfe, gAnd, gOr, gCall, gBi, gIsi, isT, isCel, gSl, gPart, ixP, pyIx, gCons, gNil, rd, rdT, truth, binop, binI, cmpop, cmpI, eqOk, dep, deps, eqP, eqPs, biF, mapO, stor, toR, toE, fin, line, noCs, noC, noLr, noL, noLs, lent, isR, noCr, ofR, callP_fnv, seqOf, intsOf, blsOf, minI, maxI, zipP, zipSeq, f39, m16, c1, c2]
  · have c2 : (decide (x = 0) && decide (y = 0)) = false := by simpa using fun a b => c ⟨a, b⟩
    have c3 : (!decide (x = 0) || !decide (y = 0)) = true := by
      by_cases p : x = 0
      · have : ¬ y = 0 := fun q => c ⟨p, q⟩
        simp [this]
      · simp [p]
    have g0 : ¬ gc x y = 0 := by have := gc_pos c; omega
    simp [run, exs, ex, ev, evs, evB, evO, evC, evI, hCons, hNil, hRet, hSet, hTset, hPar, parE, hIfe, hExpr, asg, asgs, gTup, gLst, gBin, gIx, gVar, gGlo, isCon, gNeg, gNo, gCmp, gCmp2, gIfe, gAnd, gOr, gCall, gBi, gIsi, isT, isCel, gSl, gPart, ixP, pyIx, gCons, gNil, rd, rdT, truth, binop, binI, cmpop, cmpI, eqOk, dep, deps, eqP, eqPs, biF, mapO, stor, toR, toE, fin, line, noCs, noC, noLr, noL, noLs, lent, isR, noCr, ofR, callP_fnv, seqOf, intsOf, blsOf, minI, maxI, zipP, zipSeq, f39, m16, m36b, c, c2, c3, g0]
end A71

set_option linter.all false
set_option maxRecDepth 100000
set_option maxHeartbeats 4000000
namespace A71
open Py
/-! ### the greatest common divisor, and how it is made -/
def xTest (C : Ora) : Env → Store → Option (Bool × Store) := hTest (ev G C (.cmp .ne (.ix (.var 3) (.cst (.int 0))) (.cst (.int 0))))
def xBody (C : Ora) : RS := exs G C 5000 [.set 4 (.bin .fdiv (.ix (.var 2) (.cst (.int 0))) (.ix (.var 3) (.cst (.int 0)))), .par [2, 3] [.var 3, .bi .tuple [.comp [6, 7] (.tp [.nm 6, .nm 7]) (.zip (.var 2) (.var 3)) none (.bin .sub (.var 6) (.bin .mul (.var 4) (.var 7)))]]]
abbrev xE (x y a s t b u v : Int) (T : Option EV) : Env := [some (.v (.int x)), some (.v (.int y)), some (.v (t3 a s t)), some (.v (t3 b u v)), T, none, none, none]
theorem x_test (C : Ora) (x y a s t b u v : Int) (T : Option EV) : xTest C (xE x y a s t b u v T) [] = some (!decide (b = 0), []) := by
  simp [run, exs, ex, ev, evs, evB, evO, evC, evI, hCons, hNil, hRet, hSet, hTset, hPar, parE, hIfe, hExpr, asg, asgs, gTup, gLst, gBin, gIx, gVar, gGlo, isCon, gNeg, gNo, gCmp, gCmp2, gIfe, gAnd, gOr, gCall, gBi, gIsi, isT, isCel, gSl, gPart, ixP, pyIx, gCons, gNil, rd, rdT, truth, binop, binI, cmpop, cmpI, eqOk, dep, deps, eqP, eqPs, biF, mapO, stor, toR, toE, fin, line, noCs, noC, noLr, noL, noLs, lent, isR, noCr, ofR, callP_fnv, seqOf, intsOf, blsOf, minI, maxI, zipP, zipSeq, xTest, hTest]
theorem x_step (C : Ora) (x y a s t b u v : Int) (T : Option EV) (hb : b ≠ 0) (ha : (a.fdiv b).natAbs < 18446744073709551616) (hl : Nat.log2 b.natAbs < 9000) : xBody C (xE x y a s t b u v T) [] = some (.next, xE x y b u v (a - a.fdiv b * b) (s - a.fdiv b * u) (t - a.fdiv b * v) (some (.v (.int (a.fdiv b)))), []) := by
  have h1 := mulOkL (j := b) ha
  have h2 := mulOkL (j := u) ha
  have h3 := mulOkL (j := v) ha
  simp [run, exs, ex, ev, evs, evB, evO, evC, evI, hCons, hNil, hRet, hSet, hTset, hPar, parE, hIfe, hExpr, asg, asgs, gTup, gLst, gBin, gIx, gVar, gGlo, isCon, gNeg, gNo, gCmp, gCmp2, gIfe, gAnd, gOr, gCall, gBi, gIsi, isT, isCel, gSl, gPart, ixP, pyIx, gCons, gNil, rd, rdT, truth, binop, binI, cmpop, cmpI, eqOk, dep, deps, eqP, eqPs, biF, mapO, stor, toR, toE, fin, line, noCs, noC, noLr, noL, noLs, lent, isR, noCr, ofR, callP_fnv, seqOf, intsOf, blsOf, minI, maxI, zipP, zipSeq, g0, g3, g4, augP, augOp, hTurn, hAug, xBody, hb, hl, h1, h2, h3, gComp, gStep, gKeep, gZip, zipL, compL, wipe, lock, unlock]
theorem fmod_sub (a b : Int) : a - a.fdiv b * b = a.fmod b := by rw [Int.fmod_def, Int.mul_comm]
theorem gc_step (a b : Int) : gc b (a.fmod b) = gc a b := by
  show ((Nat.gcd b.natAbs (a.fmod b).natAbs : Nat) : Int) = _
  have h := Int.mul_fdiv_add_fmod a b
  have : Int.gcd b (a.fmod b) = Int.gcd a b := by
    conv => rhs; rw [← h]
    rw [Int.gcd_comm (b * a.fdiv b + a.fmod b) b]
    apply Nat.dvd_antisymm
    · refine Int.dvd_gcd (Int.gcd_dvd_left ..) ?_
      exact Int.dvd_add (Int.dvd_trans (Int.gcd_dvd_left ..) (Int.dvd_mul_right ..)) (Int.gcd_dvd_right ..)
    · refine Int.dvd_gcd (Int.gcd_dvd_left ..) ?_
      have h1 : (Int.gcd b (b * a.fdiv b + a.fmod b) : Int) ∣ b * a.fdiv b + a.fmod b := Int.gcd_dvd_right ..
      have h2 : (Int.gcd b (b * a.fdiv b + a.fmod b) : Int) ∣ b * a.fdiv b := Int.dvd_trans (Int.gcd_dvd_left ..) (Int.dvd_mul_right ..)
      exact (Int.dvd_add_right h2).mp h1
  exact congrArg _ this
theorem fmod_abs (a : Int) {b : Int} (hb : b ≠ 0) : (a.fmod b).natAbs < b.natAbs := by
  rcases Int.lt_or_gt_of_ne hb with h | h
  · have h1 := Int.neg_fmod_neg a b
    have h2 := Int.fmod_nonneg_of_pos (-a) (show 0 < -b by omega)
    have h3 := Int.fmod_lt_of_pos (-a) (show 0 < -b by omega)
    omega
  · have h2 := Int.fmod_nonneg_of_pos a h
    have h3 := Int.fmod_lt_of_pos a h
    omega
/-- two steps halve -/
theorem fmod_half (a : Int) {b : Int} (hb : b ≠ 0) (hr : a.fmod b ≠ 0) : 2 * (b.fmod (a.fmod b)).natAbs < b.natAbs := by
  have key : ∀ a b : Int, 0 < b → a.fmod b ≠ 0 → 2 * (b.fmod (a.fmod b)).natAbs < b.natAbs := fun a b h hr => by
    have h2 := Int.fmod_nonneg_of_pos a h
    have h3 := Int.fmod_lt_of_pos a h
    have hp : 0 < a.fmod b := by omega
    have h4 := Int.fmod_nonneg_of_pos b hp
    have h5 := Int.fmod_lt_of_pos b hp
    have h6 := Int.mul_fdiv_add_fmod b (a.fmod b)
    have h7 : 1 ≤ b.fdiv (a.fmod b) := by
      rw [Int.fdiv_eq_ediv_of_nonneg _ (by omega)]
      exact (Int.le_ediv_iff_mul_le hp).mpr (by omega)
    have h8 : a.fmod b * 1 ≤ a.fmod b * b.fdiv (a.fmod b) := Int.mul_le_mul_of_nonneg_left h7 (by omega)
    omega
  rcases Int.lt_or_gt_of_ne hb with h | h
  · have h1 := Int.neg_fmod_neg a b
    have k := key (-a) (-b) (by omega) (by rw [Int.neg_fmod_neg]; omega)
    rw [Int.neg_fmod_neg, Int.neg_fmod_neg] at k
    omega
  · exact key a b h hr
theorem x_loop (x y : Int) : ∀ (k : Nat) (a s t b u v : Int) (T : Option EV) (m : Nat), a.natAbs < 2 ^ 63 → b.natAbs < 2 ^ k → b.natAbs < 2 ^ 63 → 2 * k + 1 ≤ m → s * x + t * y = a → u * x + v * y = b →
    ∃ s' t' u' v' T' a', (∀ C, whileL (xTest C) (xBody C) m (xE x y a s t b u v T) [] = some (.next, xE x y a' s' t' 0 u' v' T', [])) ∧ s' * x + t' * y = a' ∧ gc a' 0 = gc a b := by
  have stop : ∀ (C : Ora) (a s t u v : Int) (T : Option EV) (m : Nat), 1 ≤ m → whileL (xTest C) (xBody C) m (xE x y a s t 0 u v T) [] = some (.next, xE x y a s t 0 u v T, []) := fun C a s t u v T m hm => by
    obtain ⟨m, rfl⟩ : ∃ j, m = j + 1 := ⟨m - 1, by omega⟩
    rw [whileL, x_test]
    rfl
  have go : ∀ (C : Ora) (a s t b u v : Int) (T : Option EV) (m : Nat), a.natAbs < 2 ^ 63 → b ≠ 0 → b.natAbs < 2 ^ 63 → whileL (xTest C) (xBody C) (m + 1) (xE x y a s t b u v T) [] = whileL (xTest C) (xBody C) m (xE x y b u v (a.fmod b) (s - a.fdiv b * u) (t - a.fdiv b * v) (some (.v (.int (a.fdiv b))))) [] := fun C a s t b u v T m ha hb hb2 => by
    have l : Nat.log2 b.natAbs < 9000 := Nat.lt_trans ((Nat.log2_lt (by omega)).mpr hb2) (by decide)
    have hf := natAbs_fdiv_le a b
    rw [whileL, x_test, decide_eq_false hb]
    simp only [Bool.not_false]
    rw [x_step C x y a s t b u v T hb (by omega) l, fmod_sub]
  have lin : ∀ a s t b u v : Int, s * x + t * y = a → u * x + v * y = b → (s - a.fdiv b * u) * x + (t - a.fdiv b * v) * y = a.fmod b := fun a s t b u v h1 h2 => by
    rw [← fmod_sub, Int.sub_mul, Int.sub_mul, Int.mul_assoc, Int.mul_assoc]
    have e : a.fdiv b * b = a.fdiv b * (u * x) + a.fdiv b * (v * y) := by rw [← Int.mul_add, h2]
    omega
  intro k
  induction k with
  | zero =>
    intro a s t b u v T m ha hb hb2 hm h1 h2
    have : b = 0 := by omega
    subst this
    exact ⟨s, t, u, v, T, a, fun C => stop C _ _ _ _ _ _ _ (by omega), h1, rfl⟩
  | succ k ih =>
    intro a s t b u v T m ha hb hb2 hm h1 h2
    by_cases h0 : b = 0
    · subst h0
      exact ⟨s, t, u, v, T, a, fun C => stop C _ _ _ _ _ _ _ (by omega), h1, rfl⟩
    · obtain ⟨m, rfl⟩ : ∃ j, m = j + 2 := ⟨m - 2, by omega⟩
      have f1 := fmod_abs a h0
      have l1 := lin a s t b u v h1 h2
      by_cases h3 : a.fmod b = 0
      · refine ⟨_, _, _, _, _, _, fun C => by rw [go C _ _ _ _ _ _ _ _ ha h0 hb2, h3]; exact stop C _ _ _ _ _ _ _ (by omega), h2, ?_⟩
        rw [← gc_step a b, h3]
      · have f2 := fmod_half a h0 h3
        have f3 := fmod_abs b h3
        have l2 := lin b u v _ _ _ h2 l1
        obtain ⟨s', t', u', v', T', a', q1, q2, q3⟩ := ih (a.fmod b) _ _ (b.fmod (a.fmod b)) _ _ (some (.v (.int (b.fdiv (a.fmod b))))) m (by omega) (by rw [Nat.pow_succ] at hb; omega) (by omega) (by omega) l1 l2
        refine ⟨s', t', u', v', T', a', fun C => by rw [go C _ _ _ _ _ _ _ _ ha h0 hb2, go C _ _ _ _ _ _ _ _ hb2 h3 (by omega)]; exact q1 C, q2, ?_⟩
        rw [q3, gc_step, gc_step]
theorem m10 (x y : Int) (hx : x.natAbs < 2 ^ 63) (hy : y.natAbs < 2 ^ 63) : ∃ p q : Int, (∀ n, fv (n+1) 10 [.int x, .int y] = some (.v (t3 (gc x y) p q))) ∧ p * x + q * y = gc x y := by
  obtain ⟨s, t, u, v, T, a, h1, h2, h3⟩ := x_loop x y 63 x 1 0 y 0 1 none 5000 hx hy hy (by decide) (by omega) (by omega)
  have h3 : ((Nat.gcd a.natAbs 0 : Nat) : Int) = gc x y := h3
  rw [Nat.gcd_zero_right] at h3
  have hn : ∀ {f g : RS} {E E1 : Env} {S S1 : Store}, f E S = some (.next, E1, S1) → hCons f g E S = g E1 S1 := fun h => by simp [hCons, h]
  have p : ∀ n, ex G (call G fs 5000 n) 5000 (.par [2, 3] [.tup [.var 0, .cst (.int 1), .cst (.int 0)], .tup [.var 1, .cst (.int 0), .cst (.int 1)]]) [some (.v (.int x)), some (.v (.int y)), none, none, none, none, none, none] [] = some (.next, xE x y x 1 0 y 0 1 none, []) := fun n => by
    simp [run, exs, ex, ev, evs, evB, evO, evC, evI, hCons, hNil, hRet, hSet, hTset, hPar, parE, hIfe, hExpr, asg, asgs, gTup, gLst, gBin, gIx, gVar, gGlo, isCon, gNeg, gNo, gCmp, gCmp2, gIfe, gAnd, gOr, gCall, gBi, gIsi, isT, isCel, gSl, gPart, ixP, pyIx, gCons, gNil, rd, rdT, truth, binop, binI, cmpop, cmpI, eqOk, dep, deps, eqP, eqPs, biF, mapO, stor, toR, toE, fin, line, noCs, noC, noLr, noL, noLs, lent, isR, noCr, ofR, callP_fnv, seqOf, intsOf, blsOf, minI, maxI, zipP, zipSeq, ]
  have body : ∀ n (r : Option (RV × Store)), (match exs G (call G fs 5000 n) 5000 [.ret (.ife (.cmp .ge (.ix (.var 2) (.cst (.int 0))) (.cst (.int 0))) (.var 2) (.bi .tuple [.comp [5] (.nm 5) (.val (.var 2)) none (.neg (.var 5))]))] (xE x y a s t 0 u v T) [] with
    | some (.next, _, S1) => some (RV.v .non, S1)
    | some (.ret v, _, S1) => fin 0 S1 v
    | _ => none) = r → fv (n+1) 10 [.int x, .int y] = r.map (·.1) := fun n r hr => by
    rw [e _ 10 _ f10 rfl, ← hr]
    congr 1
    show (match exs G (call G fs 5000 n) 5000 f10.body [some (.v (.int x)), some (.v (.int y)), none, none, none, none, none, none] [] with
    | some (.next, _, S1) => some (RV.v .non, S1)
    | some (.ret v, _, S1) => fin 0 S1 v
    | _ => none) = _
    rw [show exs G (call G fs 5000 n) 5000 f10.body [some (.v (.int x)), some (.v (.int y)), none, none, none, none, none, none] [] = _ from (hn (p n)).trans (hn (h1 _))]
  by_cases ha : 0 ≤ a
  · refine ⟨s, t, fun n => ?_, by rw [h2]; omega⟩
    have : gc x y = a := by omega
    rw [body n (some (.v (t3 a s t), [])) (by simp [run, exs, ex, ev, evs, evB, evO, evC, evI, hCons, hNil, hRet, hSet, hTset, hPar, parE, hIfe, hExpr, asg, asgs, gTup, gLst, gBin, gIx, gVar, gGlo, isCon, gNeg, gNo, gCmp, gCmp2, gIfe, gAnd, gOr, gCall, gBi, gIsi, isT, isCel, gSl, gPart, ixP, pyIx, gCons, gNil, rd, rdT, truth, binop, binI, cmpop, cmpI, eqOk, dep, deps, eqP, eqPs, biF, mapO, stor, toR, toE, fin, line, noCs, noC, noLr, noL, noLs, lent, isR, noCr, ofR, callP_fnv, seqOf, intsOf, blsOf, minI, maxI, zipP, zipSeq, ha]), this]
    rfl
  · refine ⟨-s, -t, fun n => ?_, by rw [Int.neg_mul, Int.neg_mul]; omega⟩
    have : gc x y = -a := by omega
    rw [body n (some (.v (t3 (-a) (-s) (-t)), [])) (by simp [run, exs, ex, ev, evs, evB, evO, evC, evI, hCons, hNil, hRet, hSet, hTset, hPar, parE, hIfe, hExpr, asg, asgs, gTup, gLst, gBin, gIx, gVar, gGlo, isCon, gNeg, gNo, gCmp, gCmp2, gIfe, gAnd, gOr, gCall, gBi, gIsi, isT, isCel, gSl, gPart, ixP, pyIx, gCons, gNil, rd, rdT, truth, binop, binI, cmpop, cmpI, eqOk, dep, deps, eqP, eqPs, biF, mapO, stor, toR, toE, fin, line, noCs, noC, noLr, noL, noLs, lent, isR, noCr, ofR, callP_fnv, seqOf, intsOf, blsOf, minI, maxI, zipP, zipSeq, g0, g3, g4, augP, augOp, hTurn, hAug, ha, gComp, gStep, gKeep, gVal, itemsOf, compL, wipe, lock, unlock]), this]
    rfl
/-! ### the least pair -/
theorem minP_mem (x : PV) : ∀ (r : List PV) , minP x r ∈ x :: r := by
  have key : ∀ (r : List PV) (x : PV), r.foldl (fun a y => if ltP y a then y else a) x ∈ x :: r := by
    intro r
    induction r with
    | nil => intro x; simp
    | cons y r ih =>
      intro x
      rw [List.foldl_cons]
      have := ih (if ltP y x then y else x)
      rcases List.mem_cons.mp this with h | h
      · rw [h]; split <;> simp
      · simp [h]
  exact fun r => key r x
/-- the pairs that span_by looks at -/
def spC (p q w h L : Int) : PV := t3 (((p + L * w).natAbs : Nat) + ((q + L * h).natAbs : Nat)) (p + L * w) (q + L * h)
def spLs (M N : Int) : List Int := [M - 2, M - 1, M, M + 1, M + 2, N - 2, N - 1, N, N + 1, N + 2]
theorem sp_best (p q w h M N : Int) : ∃ L, (bestD minP ((spLs M N).map (spC p q w h))).map EV.v = some (.v (spC p q w h L)) := by
  have h1 : bestD minP ((spLs M N).map (spC p q w h)) = some (minP (spC p q w h (M - 2)) (([M - 1, M, M + 1, M + 2, N - 2, N - 1, N, N + 1, N + 2] : List Int).map (spC p q w h))) := rfl
  have h2 := minP_mem (spC p q w h (M - 2)) (([M - 1, M, M + 1, M + 2, N - 2, N - 1, N, N + 1, N + 2] : List Int).map (spC p q w h))
  rw [← List.map_cons] at h2
  obtain ⟨L, _, hL⟩ := List.mem_map.mp h2
  exact ⟨L, by rw [h1, hL]; rfl⟩
/-- one lap -/
theorem sp_app (C : Ora) (E : Env) (p q w h L : Int) (xs : List PV) (e5 : E[5]? = some (some (.r 0))) (e11 : E[11]? = some (some (.v (.int p)))) (e12 : E[12]? = some (some (.v (.int q)))) (e13 : E[13]? = some (some (.v (.int w)))) (e14 : E[14]? = some (some (.v (.int h)))) (e15 : E[15]? = some (some (.v (.int L))))
    (hw : w.natAbs < 18446744073709551616) (hh : h.natAbs < 18446744073709551616) (hl : xs.length < 1000) :
    ex G C 5000 (.app 5 (.tup [.bin .add (.bi .abs [.bin .add (.var 11) (.bin .mul (.var 15) (.var 13))]) (.bi .abs [.bin .add (.var 12) (.bin .mul (.var 15) (.var 14))]), .bin .add (.var 11) (.bin .mul (.var 15) (.var 13)), .bin .add (.var 12) (.bin .mul (.var 15) (.var 14))])) E [.live (.lst xs)] = some (.next, E, [.live (.lst (xs ++ [spC p q w h L]))]) := by
  have h1 := mulOkR (i := L) hw
  have h2 := mulOkR (i := L) hh
  have hl : xs.length < 16777216 := by omega
  simp [run, exs, ex, ev, evs, evB, evO, evC, evI, hCons, hNil, hRet, hSet, hTset, hPar, parE, hIfe, hExpr, asg, asgs, gTup, gLst, gBin, gIx, gVar, gGlo, isCon, gNeg, gNo, gCmp, gCmp2, gIfe, gAnd, gOr, gCall, gBi, gIsi, isT, isCel, gSl, gPart, ixP, pyIx, gCons, gNil, rd, rdT, truth, binop, binI, cmpop, cmpI, eqOk, dep, deps, eqP, eqPs, biF, mapO, stor, toR, toE, fin, line, noCs, noC, noLr, noL, noLs, lent, isR, noCr, ofR, callP_fnv, seqOf, intsOf, blsOf, minI, maxI, zipP, zipSeq, hApp, isLst, cellOf, e5, e11, e12, e13, e14, e15, h1, h2, ab, hl, spC]
abbrev spE (x y g9 tm M N : Int) (o6 o7 : Option EV) (g f s p q w h : Int) (o15 : Option EV) : Env := [some (.v (.int x)), some (.v (.int y)), some (.v (.int g9)), some (.v (.int tm)), some (.v (.lst [.int M, .int N])), some (.r 0), o6, o7, some (.v (.int g)), some (.v (.int f)), some (.v (.int s)), some (.v (.int p)), some (.v (.int q)), some (.v (.int w)), some (.v (.int h)), o15]
theorem sp_app2 (C : Ora) (x y g9 tm M N : Int) (o6 o7 : Option EV) (g f s p q w h L : Int) (xs : List PV)
    (hw : w.natAbs < 18446744073709551616) (hh : h.natAbs < 18446744073709551616) (hl : xs.length < 1000) :
    exs G C 5000 [.app 5 (.tup [.bin .add (.bi .abs [.bin .add (.var 11) (.bin .mul (.var 15) (.var 13))]) (.bi .abs [.bin .add (.var 12) (.bin .mul (.var 15) (.var 14))]), .bin .add (.var 11) (.bin .mul (.var 15) (.var 13)), .bin .add (.var 12) (.bin .mul (.var 15) (.var 14))])] (spE x y g9 tm M N o6 o7 g f s p q w h (some (.v (.int L)))) [.live (.lst xs)] = some (.next, spE x y g9 tm M N o6 o7 g f s p q w h (some (.v (.int L))), [.live (.lst (xs ++ [spC p q w h L]))]) := by
  simp only [exs, hCons, sp_app C (spE x y g9 tm M N o6 o7 g f s p q w h (some (.v (.int L)))) p q w h L xs rfl rfl rfl rfl rfl rfl hw hh hl, hNil]
def spBody : List Stm := [.forr (.nm 15) (.val (.tup [.bin .sub (.var 6) (.cst (.int 2)), .bin .sub (.var 6) (.cst (.int 1)), .var 6, .bin .add (.var 6) (.cst (.int 1)), .bin .add (.var 6) (.cst (.int 2))])) [.app 5 (.tup [.bin .add (.bi .abs [.bin .add (.var 11) (.bin .mul (.var 15) (.var 13))]) (.bi .abs [.bin .add (.var 12) (.bin .mul (.var 15) (.var 14))]), .bin .add (.var 11) (.bin .mul (.var 15) (.var 13)), .bin .add (.var 12) (.bin .mul (.var 15) (.var 14))])]]
theorem sp_turn (C : Ora) (x y g9 tm M N : Int) (o7 : Option EV) (g f s p q w h L : Int) (xs : List PV) (m : Int) (o : Option EV)
    (hw : w.natAbs < 18446744073709551616) (hh : h.natAbs < 18446744073709551616) (hl : xs.length < 1000) :
    hTurn (.nm 15) (exs G C 5000 [.app 5 (.tup [.bin .add (.bi .abs [.bin .add (.var 11) (.bin .mul (.var 15) (.var 13))]) (.bi .abs [.bin .add (.var 12) (.bin .mul (.var 15) (.var 14))]), .bin .add (.var 11) (.bin .mul (.var 15) (.var 13)), .bin .add (.var 12) (.bin .mul (.var 15) (.var 14))])]) (.int L) (spE x y g9 tm M N (some (.v (.int m))) o7 g f s p q w h o) [.live (.lst xs)] = some (.next, spE x y g9 tm M N (some (.v (.int m))) o7 g f s p q w h (some (.v (.int L))), [.live (.lst (xs ++ [spC p q w h L]))]) := by
  have := sp_app2 C x y g9 tm M N (some (.v (.int m))) o7 g f s p q w h L xs hw hh hl
  unfold hTurn
  exact this
theorem sp_five (C : Ora) (x y g9 tm M N : Int) (o7 : Option EV) (g f s p q w h : Int) (xs : List PV) (m : Int) (o : Option EV)
    (hw : w.natAbs < 18446744073709551616) (hh : h.natAbs < 18446744073709551616) (hl : xs.length < 900) :
    exs G C 5000 spBody (spE x y g9 tm M N (some (.v (.int m))) o7 g f s p q w h o) [.live (.lst xs)] = some (.next, spE x y g9 tm M N (some (.v (.int m))) o7 g f s p q w h (some (.v (.int (m + 2)))), [.live (.lst (xs ++ ([m - 2, m - 1, m, m + 1, m + 2] : List Int).map (spC p q w h)))]) := by
  have l1 : ∀ a, (xs ++ [a]).length < 1000 := fun a => by simp; omega
  have l2 : ∀ a b, (xs ++ [a] ++ [b]).length < 1000 := fun a b => by simp; omega
  have l3 : ∀ a b c, (xs ++ [a] ++ [b] ++ [c]).length < 1000 := fun a b c => by simp; omega
  have l4 : ∀ a b c d, (xs ++ [a] ++ [b] ++ [c] ++ [d]).length < 1000 := fun a b c d => by simp; omega
  have t := fun L xs o hl => sp_turn C x y g9 tm M N o7 g f s p q w h L xs m o hw hh hl
  have f5 : forL (hTurn (.nm 15) (exs G C 5000 [.app 5 (.tup [.bin .add (.bi .abs [.bin .add (.var 11) (.bin .mul (.var 15) (.var 13))]) (.bi .abs [.bin .add (.var 12) (.bin .mul (.var 15) (.var 14))]), .bin .add (.var 11) (.bin .mul (.var 15) (.var 13)), .bin .add (.var 12) (.bin .mul (.var 15) (.var 14))])])) [.int (m - 2), .int (m - 1), .int m, .int (m + 1), .int (m + 2)] (spE x y g9 tm M N (some (.v (.int m))) o7 g f s p q w h o) [.live (.lst xs)] = some (.next, spE x y g9 tm M N (some (.v (.int m))) o7 g f s p q w h (some (.v (.int (m + 2)))), [.live (.lst (xs ++ ([m - 2, m - 1, m, m + 1, m + 2] : List Int).map (spC p q w h)))]) := by
    simp only [forL]
    rw [t _ _ _ (by omega)]
    simp only
    rw [t _ _ _ (l1 _)]
    simp only
    rw [t _ _ _ (l2 _ _)]
    simp only
    rw [t _ _ _ (l3 _ _ _)]
    simp only
    rw [t _ _ _ (l4 _ _ _ _)]
    simp
  have it : evI G C (.val (.tup [.bin .sub (.var 6) (.cst (.int 2)), .bin .sub (.var 6) (.cst (.int 1)), .var 6, .bin .add (.var 6) (.cst (.int 1)), .bin .add (.var 6) (.cst (.int 2))])) (spE x y g9 tm M N (some (.v (.int m))) o7 g f s p q w h o) [.live (.lst xs)] = some ([.int (m - 2), .int (m - 1), .int m, .int (m + 1), .int (m + 2)], .v (.tup [.int (m - 2), .int (m - 1), .int m, .int (m + 1), .int (m + 2)]), [.live (.lst xs)]) := by
    simp [run, exs, ex, ev, evs, evB, evO, evC, evI, hCons, hNil, hRet, hSet, hTset, hPar, parE, hIfe, hExpr, asg, asgs, gTup, gLst, gBin, gIx, gVar, gGlo, isCon, gNeg, gNo, gCmp, gCmp2, gIfe, gAnd, gOr, gCall, gBi, gIsi, isT, isCel, gSl, gPart, ixP, pyIx, gCons, gNil, rd, rdT, truth, binop, binI, cmpop, cmpI, eqOk, dep, deps, eqP, eqPs, biF, mapO, stor, toR, toE, fin, line, noCs, noC, noLr, noL, noLs, lent, isR, noCr, ofR, callP_fnv, seqOf, intsOf, blsOf, minI, maxI, zipP, zipSeq, gVal, itemsOf]
  refine exs_next (s := .forr (.nm 15) (.val (.tup [.bin .sub (.var 6) (.cst (.int 2)), .bin .sub (.var 6) (.cst (.int 1)), .var 6, .bin .add (.var 6) (.cst (.int 1)), .bin .add (.var 6) (.cst (.int 2))])) [.app 5 (.tup [.bin .add (.bi .abs [.bin .add (.var 11) (.bin .mul (.var 15) (.var 13))]) (.bi .abs [.bin .add (.var 12) (.bin .mul (.var 15) (.var 14))]), .bin .add (.var 11) (.bin .mul (.var 15) (.var 13)), .bin .add (.var 12) (.bin .mul (.var 15) (.var 14))])]) (ss := []) ?_ rfl
  simp only [ex]
  unfold hFor
  rw [it]
  simp only [lock]
  rw [f5]
  rfl
theorem sp_loop (C : Ora) (x y g9 tm M N : Int) (o6 o7 : Option EV) (g f s p q w h : Int) (o : Option EV)
    (hw : w.natAbs < 18446744073709551616) (hh : h.natAbs < 18446744073709551616) :
    ex G C 5000 (.forr (.nm 6) (.val (.var 4)) spBody) (spE x y g9 tm M N o6 o7 g f s p q w h o) [.live (.lst [])] = some (.next, spE x y g9 tm M N (some (.v (.int N))) o7 g f s p q w h (some (.v (.int (N + 2)))), [.live (.lst ((spLs M N).map (spC p q w h)))]) := by
  have t1 : hTurn (.nm 6) (exs G C 5000 spBody) (.int M) (spE x y g9 tm M N o6 o7 g f s p q w h o) [.live (.lst [])] = _ := sp_five C x y g9 tm M N o7 g f s p q w h [] M o hw hh (by decide)
  have t2 : ∀ o2 xs, xs.length < 900 → hTurn (.nm 6) (exs G C 5000 spBody) (.int N) (spE x y g9 tm M N (some (.v (.int M))) o7 g f s p q w h o2) [.live (.lst xs)] = _ := fun o2 xs hl => sp_five C x y g9 tm M N o7 g f s p q w h xs N o2 hw hh hl
  have it : evI G C (.val (.var 4)) (spE x y g9 tm M N o6 o7 g f s p q w h o) [.live (.lst [])] = some ([.int M, .int N], .v (.lst [.int M, .int N]), [.live (.lst [])]) := rfl
  simp only [ex]
  unfold hFor
  rw [it]
  simp only [lock, forL]
  rw [t1]
  simp only
  rw [t2 _ _ (by simp)]
  simp [unlock, spLs]
theorem m40 (x y g9 : Int) (hx : x.natAbs < 2 ^ 63) (hy : y.natAbs < 2 ^ 63) (hg : g9.natAbs < 2 ^ 63) (hn : ¬ (x = 0 ∧ y = 0)) (hd : g9.fmod (gc x y) = 0) : ∃ P Q : Int, (∀ n, fv (n+2) 40 [.int x, .int y, .int g9] = some (.v (.tup [.int P, .int Q]))) ∧ P * y - Q * x = g9 := by
  obtain ⟨f, s, h10, lin⟩ := m10 x y hx hy
  obtain ⟨g, eg⟩ : ∃ g, g = gc x y := ⟨_, rfl⟩
  have gp : 0 < g := by rw [eg]; exact gc_pos hn
  rw [← eg] at h10 lin hd
  have gb : g.natAbs < 2 ^ 63 := by
    rw [eg]
    show (((Nat.gcd x.natAbs y.natAbs : Nat)) : Int).natAbs < _
    by_cases hx0 : x.natAbs = 0
    · rw [hx0, Nat.gcd_zero_left]; exact hy
    · have := Nat.gcd_le_left y.natAbs (Nat.pos_of_ne_zero hx0)
      omega
  have dx : g ∣ x := by rw [eg]; exact Int.gcd_dvd_left ..
  have dy : g ∣ y := by rw [eg]; exact Int.gcd_dvd_right ..
  obtain ⟨w, hw⟩ := dx
  obtain ⟨h, hh⟩ := dy
  have ew : x.fdiv g = w := by rw [hw, Int.mul_comm]; exact Int.mul_fdiv_cancel _ (by omega)
  have eh : y.fdiv g = h := by rw [hh, Int.mul_comm]; exact Int.mul_fdiv_cancel _ (by omega)
  have bw : w.natAbs < 2 ^ 63 := by rw [← ew]; exact Nat.lt_of_le_of_lt (natAbs_fdiv_le _ _) hx
  have bh : h.natAbs < 2 ^ 63 := by rw [← eh]; exact Nat.lt_of_le_of_lt (natAbs_fdiv_le _ _) hy
  obtain ⟨tm, et⟩ : ∃ tm, tm = g9.fdiv g := ⟨_, rfl⟩
  have bt : tm.natAbs < 2 ^ 63 := by rw [et]; exact Nat.lt_of_le_of_lt (natAbs_fdiv_le _ _) hg
  have hgt : g9 = g * tm := by
    have := Int.mul_fdiv_add_fmod g9 g
    rw [hd, ← et] at this
    omega
  have lgg : Nat.log2 g.natAbs < 9000 := Nat.lt_trans ((Nat.log2_lt (by omega)).mpr gb) (by decide)
  have lgw : w ≠ 0 → Nat.log2 w.natAbs < 9000 := fun z => Nat.lt_trans ((Nat.log2_lt (by omega)).mpr bw) (by decide)
  have lgh : h ≠ 0 → Nat.log2 h.natAbs < 9000 := fun z => Nat.lt_trans ((Nat.log2_lt (by omega)).mpr bh) (by decide)
  have u1 := mulOkR (i := s) (j := tm) (by omega)
  have u2 := mulOkR (i := -f) (j := tm) (by omega)
  have hn' : ∀ {f g : RS} {E E1 : Env} {S S1 : Store}, f E S = some (.next, E1, S1) → hCons f g E S = g E1 S1 := fun h => by simp [hCons, h]
  obtain ⟨M, eM⟩ : ∃ M, M = if w = 0 then (0 : Int) else -((s * tm).fdiv w) := ⟨_, rfl⟩
  obtain ⟨N, eN⟩ : ∃ N, N = if h = 0 then (0 : Int) else -((-f * tm).fdiv h) := ⟨_, rfl⟩
  have g1 : g ≠ 0 := by omega
  have st : ∀ n r, exs G (call G fs 5000 (n+1)) 5000 [.forr (.nm 6) (.val (.var 4)) spBody, .set 7 (.bi .minL [.var 5]), .ret (.tup [.ix (.var 7) (.cst (.int 1)), .ix (.var 7) (.cst (.int 2))])] (spE x y g9 tm M N none none g f s (s * tm) (-f * tm) w h none) [.live (.lst [])] = r → exs G (call G fs 5000 (n+1)) 5000 f40.body [some (.v (.int x)), some (.v (.int y)), some (.v (.int g9)), none, none, none, none, none, none, none, none, none, none, none, none, none] [] = r := fun n r hr => by
    rw [← hr]
    by_cases cw : w = 0
    · by_cases ch : h = 0
      · simp [run, exs, ex, ev, evs, evB, evO, evC, evI, hCons, hNil, hRet, hSet, hTset, hPar, parE, hIfe, hExpr, asg, asgs, gTup, gLst, gBin, gIx, gVar, gGlo, isCon, gNeg, gNo, gCmp, gCmp2, gIfe, gAnd, gOr, gCall, gBi, gIsi, isT, isCel, gSl, gPart, ixP, pyIx, gCons, gNil, rd, rdT, truth, binop, binI, cmpop, cmpI, eqOk, dep, deps, eqP, eqPs, biF, mapO, stor, toR, toE, fin, line, noCs, noC, noLr, noL, noLs, lent, isR, noCr, ofR, callP_fnv, seqOf, intsOf, blsOf, minI, maxI, zipP, zipSeq, g0, g3, g4, augP, augOp, hTurn, hAug, f40, h10, ew, eh, ← et, g1, lgg, u1, u2, eM, eN, cw, ch, gMk, spBody]
      · have l := lgh ch
        simp [run, exs, ex, ev, evs, evB, evO, evC, evI, hCons, hNil, hRet, hSet, hTset, hPar, parE, hIfe, hExpr, asg, asgs, gTup, gLst, gBin, gIx, gVar, gGlo, isCon, gNeg, gNo, gCmp, gCmp2, gIfe, gAnd, gOr, gCall, gBi, gIsi, isT, isCel, gSl, gPart, ixP, pyIx, gCons, gNil, rd, rdT, truth, binop, binI, cmpop, cmpI, eqOk, dep, deps, eqP, eqPs, biF, mapO, stor, toR, toE, fin, line, noCs, noC, noLr, noL, noLs, lent, isR, noCr, ofR, callP_fnv, seqOf, intsOf, blsOf, minI, maxI, zipP, zipSeq, g0, g3, g4, augP, augOp, hTurn, hAug, f40, h10, ew, eh, ← et, g1, lgg, u1, u2, eM, eN, cw, ch, l, gMk, spBody]
    · have l := lgw cw
      by_cases ch : h = 0
      · simp [run, exs, ex, ev, evs, evB, evO, evC, evI, hCons, hNil, hRet, hSet, hTset, hPar, parE, hIfe, hExpr, asg, asgs, gTup, gLst, gBin, gIx, gVar, gGlo, isCon, gNeg, gNo, gCmp, gCmp2, gIfe, gAnd, gOr, gCall, gBi, gIsi, isT, isCel, gSl, gPart, ixP, pyIx, gCons, gNil, rd, rdT, truth, binop, binI, cmpop, cmpI, eqOk, dep, deps, eqP, eqPs, biF, mapO, stor, toR, toE, fin, line, noCs, noC, noLr, noL, noLs, lent, isR, noCr, ofR, callP_fnv, seqOf, intsOf, blsOf, minI, maxI, zipP, zipSeq, g0, g3, g4, augP, augOp, hTurn, hAug, f40, h10, ew, eh, ← et, g1, lgg, u1, u2, eM, eN, cw, ch, l, gMk, spBody]
      · have l' := lgh ch
        simp [run, exs, ex, ev, evs, evB, evO, evC, evI, hCons, hNil, hRet, hSet, hTset, hPar, parE, hIfe, hExpr, asg, asgs, gTup, gLst, gBin, gIx, gVar, gGlo, isCon, gNeg, gNo, gCmp, gCmp2, gIfe, gAnd, gOr, gCall, gBi, gIsi, isT, isCel, gSl, gPart, ixP, pyIx, gCons, gNil, rd, rdT, truth, binop, binI, cmpop, cmpI, eqOk, dep, deps, eqP, eqPs, biF, mapO, stor, toR, toE, fin, line, noCs, noC, noLr, noL, noLs, lent, isR, noCr, ofR, callP_fnv, seqOf, intsOf, blsOf, minI, maxI, zipP, zipSeq, g0, g3, g4, augP, augOp, hTurn, hAug, f40, h10, ew, eh, ← et, g1, lgg, u1, u2, eM, eN, cw, ch, l, l', gMk, spBody]
  obtain ⟨L, hL⟩ := sp_best (s * tm) (-f * tm) w h M N
  have hi : intsOf ((spLs M N).map (spC (s * tm) (-f * tm) w h)) = none := rfl
  have bi : biF .minL [.lst ((spLs M N).map (spC (s * tm) (-f * tm) w h))] = some (.v (spC (s * tm) (-f * tm) w h L)) := by
    unfold biF
    simp only [hi]
    exact hL
  have q1 : ∀ n, exs G (call G fs 5000 (n+1)) 5000 [.set 7 (.bi .minL [.var 5]), .ret (.tup [.ix (.var 7) (.cst (.int 1)), .ix (.var 7) (.cst (.int 2))])] (spE x y g9 tm M N (some (.v (.int N))) none g f s (s * tm) (-f * tm) w h (some (.v (.int (N + 2))))) [.live (.lst ((spLs M N).map (spC (s * tm) (-f * tm) w h)))] = some (.ret (.v (.tup [.int (s * tm + L * w), .int (-f * tm + L * h)])), spE x y g9 tm M N (some (.v (.int N))) (some (.v (spC (s * tm) (-f * tm) w h L))) g f s (s * tm) (-f * tm) w h (some (.v (.int (N + 2)))), [.live (.lst ((spLs M N).map (spC (s * tm) (-f * tm) w h)))]) := fun n => by
    refine exs_next (E1 := spE x y g9 tm M N (some (.v (.int N))) (some (.v (spC (s * tm) (-f * tm) w h L))) g f s (s * tm) (-f * tm) w h (some (.v (.int (N + 2))))) (S1 := [.live (.lst ((spLs M N).map (spC (s * tm) (-f * tm) w h)))]) ?_ ?_
    · simp only [ex, hSet, ev, evs, gBi, gCons, gVar, gNil, List.getElem?_cons_succ, List.getElem?_cons_zero, mapO, rd, bi, toE, List.set_cons_succ, List.set_cons_zero]
    · simp [run, exs, ex, ev, evs, evB, evO, evC, evI, hCons, hNil, hRet, hSet, hTset, hPar, parE, hIfe, hExpr, asg, asgs, gTup, gLst, gBin, gIx, gVar, gGlo, isCon, gNeg, gNo, gCmp, gCmp2, gIfe, gAnd, gOr, gCall, gBi, gIsi, isT, isCel, gSl, gPart, ixP, pyIx, gCons, gNil, rd, rdT, truth, binop, binI, cmpop, cmpI, eqOk, dep, deps, eqP, eqPs, biF, mapO, stor, toR, toE, fin, line, noCs, noC, noLr, noL, noLs, lent, isR, noCr, ofR, callP_fnv, seqOf, intsOf, blsOf, minI, maxI, zipP, zipSeq, spC]
  have q2 := fun n => st n _ (exs_next (sp_loop (call G fs 5000 (n+1)) x y g9 tm M N none none g f s (s * tm) (-f * tm) w h none (by omega) (by omega)) (q1 n))
  refine ⟨s * tm + L * w, -f * tm + L * h, fun n => ?_, ?_⟩
  · rw [e _ 40 _ f40 rfl]
    show (match exs G (call G fs 5000 (n+1)) 5000 f40.body [some (.v (.int x)), some (.v (.int y)), some (.v (.int g9)), none, none, none, none, none, none, none, none, none, none, none, none, none] [] with
    | some (.next, _, S1) => some (RV.v .non, S1)
    | some (.ret v, _, S1) => fin 0 S1 v
    | _ => none).map _ = _
    rw [q2 n]
    rfl
  · have e1 : w * y = h * x := by
      rw [hh, hw]
      simp only [Int.mul_comm, Int.mul_left_comm]
    have e2 : (s * tm + L * w) * y - (-f * tm + L * h) * x = tm * (f * x + s * y) + L * (w * y - h * x) := by
      simp only [Int.add_mul, Int.mul_add, Int.neg_mul, Int.mul_neg, Int.mul_sub, Int.mul_assoc, Int.mul_comm, Int.mul_left_comm]
      omega
    rw [e2, lin, e1, hgt, Int.mul_comm tm]
    omega
end A71

set_option linter.all false
set_option maxRecDepth 100000
set_option maxHeartbeats 4000000
namespace A71
open Py
theorem kin_true {x y z x2 y2 z2 : Int} (h : kinB x y z x2 y2 z2 = true) : x = x2 ∧ y = y2 ∧ (¬ (x = 0 ∧ y = 0) → (z2 - z).fmod (gc x y) = 0) ∧ (x = 0 ∧ y = 0 → z2 = z) := by
  unfold kinB at h
  rw [Bool.and_eq_true, decide_eq_true_eq] at h
  obtain ⟨⟨h1, h2⟩, h3⟩ := h
  refine ⟨h1, h2, fun c => ?_, fun c => ?_⟩
  · have := gc_pos c
    rw [if_neg (by omega)] at h3
    simpa using h3
  · have g0 : gc x y = 0 := by rw [c.1, c.2]; rfl
    rw [if_pos g0] at h3
    have : z2 - z = 0 := by simpa using h3
    omega
section
variable (n : Nat) (x y z x2 y2 z2 : Int) [B2 x] [B2 y] [B2 z] [B2 x2] [B2 y2] [B2 z2]
/-- leading: of what is not kin -/
theorem m41n (h : kinB x y z x2 y2 z2 = false) : call G fs 5000 (n+6) 41 [.v (t3 x y z), .v (t3 x2 y2 z2)] [] = none := by
  rw [call_run (F := f41) rfl]
  have h37 := m37 (n+2) x y z x2 y2 z2
  rw [h] at h37
  simp [run, exs, ex, ev, evs, evB, evO, evC, evI, hCons, hNil, hRet, hSet, hTset, hPar, parE, hIfe, hExpr, asg, asgs, gTup, gLst, gBin, gIx, gVar, gGlo, isCon, gNeg, gNo, gCmp, gCmp2, gIfe, gAnd, gOr, gCall, gBi, gIsi, isT, isCel, gSl, gPart, ixP, pyIx, gCons, gNil, rd, rdT, truth, binop, binI, cmpop, cmpI, eqOk, dep, deps, eqP, eqPs, biF, mapO, stor, toR, toE, fin, line, noCs, noC, noLr, noL, noLs, lent, isR, noCr, ofR, callP_fnv, seqOf, intsOf, blsOf, minI, maxI, zipP, zipSeq, f41, m16, h37, hRais]
theorem m41x (h : kinB x y z x2 y2 z2 = false) : ∃ S', call G fs 5000 (n+6) (41+far) [.v (t3 x y z), .v (t3 x2 y2 z2)] [] = some (.v (.int 0), S') := by
  rw [call_far (F := f41) (by decide) rfl]
  have h37 := m37 (n+2) x y z x2 y2 z2
  rw [h] at h37
  simp [run, exs, ex, ev, evs, evB, evO, evC, evI, hCons, hNil, hRet, hSet, hTset, hPar, parE, hIfe, hExpr, asg, asgs, gTup, gLst, gBin, gIx, gVar, gGlo, isCon, gNeg, gNo, gCmp, gCmp2, gIfe, gAnd, gOr, gCall, gBi, gIsi, isT, isCel, gSl, gPart, ixP, pyIx, gCons, gNil, rd, rdT, truth, binop, binI, cmpop, cmpI, eqOk, dep, deps, eqP, eqPs, biF, mapO, stor, toR, toE, fin, line, noCs, noC, noLr, noL, noLs, lent, isR, noCr, ofR, callP_fnv, seqOf, intsOf, blsOf, minI, maxI, zipP, zipSeq, f41, m16, h37, hRais, runX]
end
theorem m41 (x y z z2 : Int) [B2 x] [B2 y] [B2 z] [B2 z2] (hx : x.natAbs < 2 ^ 63) (hy : y.natAbs < 2 ^ 63) (hg : (z2 - z).natAbs < 2 ^ 63) (h : kinB x y z x y z2 = true) : ∃ P Q : Int, (∀ n, fv (n+6) 41 [t3 x y z, t3 x y z2] = some (.v (t3 P Q 0))) ∧ P * y - Q * x = z2 - z ∧ (x = 0 ∧ y = 0 → P = 0 ∧ Q = 0) ∧ (¬ (x = 0 ∧ y = 0) → ∀ m, fv (m+2) 40 [.int x, .int y, .int (z2 - z)] = some (.v (.tup [.int P, .int Q]))) := by
  have h37 := fun n => m37 n x y z x y z2
  rw [h] at h37
  obtain ⟨_, _, k3, k4⟩ := kin_true h
  by_cases c : x = 0 ∧ y = 0
  · refine ⟨0, 0, fun n => ?_, ?_, fun _ => ⟨rfl, rfl⟩, fun q => absurd c q⟩
    · rw [e _ 41 _ f41 rfl]
      obtain ⟨c1, c2⟩ := c
      subst c1 c2
      have h37 := h37 (n+2)
      simp [run, exs, ex, ev, evs, evB, evO, evC, evI, hCons, hNil, hRet, hSet, hTset, hPar, parE, hIfe, hExpr, asg, asgs, gTup, gLst, gBin, gIx, gVar, gGlo, isCon, gNeg, gNo, gCmp, gCmp2, gIfe, gAnd, gOr, gCall, gBi, gIsi, isT, isCel, gSl, gPart, ixP, pyIx, gCons, gNil, rd, rdT, truth, binop, binI, cmpop, cmpI, eqOk, dep, deps, eqP, eqPs, biF, mapO, stor, toR, toE, fin, line, noCs, noC, noLr, noL, noLs, lent, isR, noCr, ofR, callP_fnv, seqOf, intsOf, blsOf, minI, maxI, zipP, zipSeq, f41, m16, h37, slP, sIx, cut]
    · have := k4 c
      omega
  · obtain ⟨P, Q, h40, lin⟩ := m40 x y (z2 - z) hx hy hg c (k3 c)
    have c2 : (decide (x = 0) && decide (y = 0)) = false := by simpa using fun a b => c ⟨a, b⟩
    refine ⟨P, Q, fun n => ?_, lin, fun q => absurd q c, fun _ m => h40 m⟩
    rw [e _ 41 _ f41 rfl]
    have h37 := h37 (n+2)
    simp [run, exs, ex, ev, evs, evB, evO, evC, evI, hCons, hNil, hRet, hSet, hTset, hPar, parE, hIfe, hExpr, asg, asgs, gTup, gLst, gBin, gIx, gVar, gGlo, isCon, gNeg, gNo, gCmp, gCmp2, gIfe, gAnd, gOr, gCall, gBi, gIsi, isT, isCel, gSl, gPart, ixP, pyIx, gCons, gNil, rd, rdT, truth, binop, binI, cmpop, cmpI, eqOk, dep, deps, eqP, eqPs, biF, mapO, stor, toR, toE, fin, line, noCs, noC, noLr, noL, noLs, lent, isR, noCr, ofR, callP_fnv, seqOf, intsOf, blsOf, minI, maxI, zipP, zipSeq, f41, m16, h37, slP, sIx, cut, c, c2, h40]
end A71

set_option linter.all false
set_option maxRecDepth 100000
set_option maxHeartbeats 4000000
namespace A71
open Py
theorem h41n (n : Nat) (x y z x2 y2 z2 : Int) [B2 x] [B2 y] [B2 z] [B2 x2] [B2 y2] [B2 z2] (h : kinB x y z x2 y2 z2 = false) : fv (n+7) (41+far2) [t3 x y z, t3 x2 y2 z2] = some (.own (.lst heardV)) := by
  obtain ⟨S', q⟩ := m41x n x y z x2 y2 z2 h
  exact heard_none (m41n n x y z x2 y2 z2 h) q
section
variable (n : Nat) (x y z x2 y2 z2 k : Int) [B2 x] [B2 y] [B2 z] [B2 x2] [B2 y2] [B2 z2] [B2 k]
/-- a deed whose numbers may be great leads: only the first factors count -/
theorem m24r (P Q R : Int) (hx : x.natAbs < 18446744073709551616) (hy : y.natAbs < 18446744073709551616) : fv (n+1) 24 [t3 P Q R, t3 x y z] = some (.v (.int (P * y - Q * x))) := by
  have h1 := mulOkR (i := P) hy
  have h2 := mulOkR (i := Q) hx
  rw [e _ 24 _ f24 rfl]
  simp [run, exs, ex, ev, evs, evB, evO, evC, evI, hCons, hNil, hRet, hSet, hTset, hPar, parE, hIfe, hExpr, asg, asgs, gTup, gLst, gBin, gIx, gVar, gGlo, isCon, gNeg, gNo, gCmp, gCmp2, gIfe, gAnd, gOr, gCall, gBi, gIsi, isT, isCel, gSl, gPart, ixP, pyIx, gCons, gNil, rd, rdT, truth, binop, binI, cmpop, cmpI, eqOk, dep, deps, eqP, eqPs, biF, mapO, stor, toR, toE, fin, line, noCs, noC, noLr, noL, noLs, lent, isR, noCr, ofR, callP_fnv, seqOf, intsOf, blsOf, minI, maxI, zipP, zipSeq, f24, h1, h2]
theorem m27r (P Q R : Int) (hx : x.natAbs < 18446744073709551616) (hy : y.natAbs < 18446744073709551616) : fv (n+2) 27 [t3 x y z, t3 P Q R] = some (.v (t3 x y (z + (P * y - Q * x)))) := by
  have h := m24r n x y z P Q R hx hy
  rw [e _ 27 _ f27 rfl]
  simp [run, exs, ex, ev, evs, evB, evO, evC, evI, hCons, hNil, hRet, hSet, hTset, hPar, parE, hIfe, hExpr, asg, asgs, gTup, gLst, gBin, gIx, gVar, gGlo, isCon, gNeg, gNo, gCmp, gCmp2, gIfe, gAnd, gOr, gCall, gBi, gIsi, isT, isCel, gSl, gPart, ixP, pyIx, gCons, gNil, rd, rdT, truth, binop, binI, cmpop, cmpI, eqOk, dep, deps, eqP, eqPs, biF, mapO, stor, toR, toE, fin, line, noCs, noC, noLr, noL, noLs, lent, isR, noCr, ofR, callP_fnv, seqOf, intsOf, blsOf, minI, maxI, zipP, zipSeq, f27, h]
theorem m28r (P Q R : Int) (hx : x.natAbs < 18446744073709551616) (hy : y.natAbs < 18446744073709551616) : fv (n+6) 28 [t3 x y z, t3 P Q R] = some (.v (t3 x y (z + (P * y - Q * x)))) := by
  have h := m27r (n+3) x y z P Q R hx hy
  rw [e _ 28 _ f28 rfl]
  simp [run, exs, ex, ev, evs, evB, evO, evC, evI, hCons, hNil, hRet, hSet, hTset, hPar, parE, hIfe, hExpr, asg, asgs, gTup, gLst, gBin, gIx, gVar, gGlo, isCon, gNeg, gNo, gCmp, gCmp2, gIfe, gAnd, gOr, gCall, gBi, gIsi, isT, isCel, gSl, gPart, ixP, pyIx, gCons, gNil, rd, rdT, truth, binop, binI, cmpop, cmpI, eqOk, dep, deps, eqP, eqPs, biF, mapO, stor, toR, toE, fin, line, noCs, noC, noLr, noL, noLs, lent, isR, noCr, ofR, callP_fnv, seqOf, intsOf, blsOf, minI, maxI, zipP, zipSeq, f28, m16, h]
theorem m42r (P Q R : Int) (hx : x.natAbs < 18446744073709551616) (hy : y.natAbs < 18446744073709551616) : fv (n+6) 42 [t3 x y z, t3 x2 y2 z2, t3 P Q R] = some (.v (.bl (eqP (t3 x y (z + (P * y - Q * x))) (t3 x2 y2 z2)))) := by
  have h := m27r (n+3) x y z P Q R hx hy
  rw [e _ 42 _ f42 rfl]
  simp [run, exs, ex, ev, evs, evB, evO, evC, evI, hCons, hNil, hRet, hSet, hTset, hPar, parE, hIfe, hExpr, asg, asgs, gTup, gLst, gBin, gIx, gVar, gGlo, isCon, gNeg, gNo, gCmp, gCmp2, gIfe, gAnd, gOr, gCall, gBi, gIsi, isT, isCel, gSl, gPart, ixP, pyIx, gCons, gNil, rd, rdT, truth, binop, binI, cmpop, cmpI, eqOk, dep, deps, eqP, eqPs, biF, mapO, stor, toR, toE, fin, line, noCs, noC, noLr, noL, noLs, lent, isR, noCr, ofR, callP_fnv, seqOf, intsOf, blsOf, minI, maxI, zipP, zipSeq, f42, m16, m15, h]
theorem m19r (P Q : Int) (hy : y.natAbs < 18446744073709551616) : fv (n+6) 19 [t3 P Q 0, t3 x y z] = some (.v (t3 (P + x) (Q + y) (0 + z + P * y))) := by
  have h1 := mulOkR (i := P) hy
  rw [e _ 19 _ f19 rfl]
  have h18 : fv (n+5) 18 [t3 P Q 0, t3 x y z] = some (.v (t3 (P + x) (Q + y) (0 + z + P * y))) := by
    rw [e _ 18 _ f18 rfl]
    simp [run, exs, ex, ev, evs, evB, evO, evC, evI, hCons, hNil, hRet, hSet, hTset, hPar, parE, hIfe, hExpr, asg, asgs, gTup, gLst, gBin, gIx, gVar, gGlo, isCon, gNeg, gNo, gCmp, gCmp2, gIfe, gAnd, gOr, gCall, gBi, gIsi, isT, isCel, gSl, gPart, ixP, pyIx, gCons, gNil, rd, rdT, truth, binop, binI, cmpop, cmpI, eqOk, dep, deps, eqP, eqPs, biF, mapO, stor, toR, toE, fin, line, noCs, noC, noLr, noL, noLs, lent, isR, noCr, ofR, callP_fnv, seqOf, intsOf, blsOf, minI, maxI, zipP, zipSeq, f18, h1]
  simp [run, exs, ex, ev, evs, evB, evO, evC, evI, hCons, hNil, hRet, hSet, hTset, hPar, parE, hIfe, hExpr, asg, asgs, gTup, gLst, gBin, gIx, gVar, gGlo, isCon, gNeg, gNo, gCmp, gCmp2, gIfe, gAnd, gOr, gCall, gBi, gIsi, isT, isCel, gSl, gPart, ixP, pyIx, gCons, gNil, rd, rdT, truth, binop, binI, cmpop, cmpI, eqOk, dep, deps, eqP, eqPs, biF, mapO, stor, toR, toE, fin, line, noCs, noC, noLr, noL, noLs, lent, isR, noCr, ofR, callP_fnv, seqOf, intsOf, blsOf, minI, maxI, zipP, zipSeq, f19, m16, h18]
/-- the inner map of (P, Q, 0), and what it leads to -/
theorem m72 (P Q : Int) : fv (n+6) 72 [t3 P Q 0] = some (.v (.tup [t3 1 0 (-Q), t3 0 1 P])) := by
  have a0 : ∀ u, mulOk u 0 = true := fun u => mulOkR (by decide)
  have a1 : ∀ u, mulOk u 1 = true := fun u => mulOkR (by decide)
  have h1 : fv (n+5) 27 [t3 1 0 0, t3 P Q 0] = some (.v (t3 1 0 (-Q))) := by
    rw [e _ 27 _ f27 rfl]
    have : fv (n+4) 24 [t3 P Q 0, t3 1 0 0] = some (.v (.int (-Q))) := by
      rw [e _ 24 _ f24 rfl]
      simp [run, exs, ex, ev, evs, evB, evO, evC, evI, hCons, hNil, hRet, hSet, hTset, hPar, parE, hIfe, hExpr, asg, asgs, gTup, gLst, gBin, gIx, gVar, gGlo, isCon, gNeg, gNo, gCmp, gCmp2, gIfe, gAnd, gOr, gCall, gBi, gIsi, isT, isCel, gSl, gPart, ixP, pyIx, gCons, gNil, rd, rdT, truth, binop, binI, cmpop, cmpI, eqOk, dep, deps, eqP, eqPs, biF, mapO, stor, toR, toE, fin, line, noCs, noC, noLr, noL, noLs, lent, isR, noCr, ofR, callP_fnv, seqOf, intsOf, blsOf, minI, maxI, zipP, zipSeq, f24, a0, a1]
    simp [run, exs, ex, ev, evs, evB, evO, evC, evI, hCons, hNil, hRet, hSet, hTset, hPar, parE, hIfe, hExpr, asg, asgs, gTup, gLst, gBin, gIx, gVar, gGlo, isCon, gNeg, gNo, gCmp, gCmp2, gIfe, gAnd, gOr, gCall, gBi, gIsi, isT, isCel, gSl, gPart, ixP, pyIx, gCons, gNil, rd, rdT, truth, binop, binI, cmpop, cmpI, eqOk, dep, deps, eqP, eqPs, biF, mapO, stor, toR, toE, fin, line, noCs, noC, noLr, noL, noLs, lent, isR, noCr, ofR, callP_fnv, seqOf, intsOf, blsOf, minI, maxI, zipP, zipSeq, f27, this]
  have h2 : fv (n+5) 27 [t3 0 1 0, t3 P Q 0] = some (.v (t3 0 1 P)) := by
    rw [e _ 27 _ f27 rfl]
    have : fv (n+4) 24 [t3 P Q 0, t3 0 1 0] = some (.v (.int P)) := by
      rw [e _ 24 _ f24 rfl]
      simp [run, exs, ex, ev, evs, evB, evO, evC, evI, hCons, hNil, hRet, hSet, hTset, hPar, parE, hIfe, hExpr, asg, asgs, gTup, gLst, gBin, gIx, gVar, gGlo, isCon, gNeg, gNo, gCmp, gCmp2, gIfe, gAnd, gOr, gCall, gBi, gIsi, isT, isCel, gSl, gPart, ixP, pyIx, gCons, gNil, rd, rdT, truth, binop, binI, cmpop, cmpI, eqOk, dep, deps, eqP, eqPs, biF, mapO, stor, toR, toE, fin, line, noCs, noC, noLr, noL, noLs, lent, isR, noCr, ofR, callP_fnv, seqOf, intsOf, blsOf, minI, maxI, zipP, zipSeq, f24, a0, a1]
    simp [run, exs, ex, ev, evs, evB, evO, evC, evI, hCons, hNil, hRet, hSet, hTset, hPar, parE, hIfe, hExpr, asg, asgs, gTup, gLst, gBin, gIx, gVar, gGlo, isCon, gNeg, gNo, gCmp, gCmp2, gIfe, gAnd, gOr, gCall, gBi, gIsi, isT, isCel, gSl, gPart, ixP, pyIx, gCons, gNil, rd, rdT, truth, binop, binI, cmpop, cmpI, eqOk, dep, deps, eqP, eqPs, biF, mapO, stor, toR, toE, fin, line, noCs, noC, noLr, noL, noLs, lent, isR, noCr, ofR, callP_fnv, seqOf, intsOf, blsOf, minI, maxI, zipP, zipSeq, f27, this]
  rw [e _ 72 _ f72 rfl]
  simp [run, exs, ex, ev, evs, evB, evO, evC, evI, hCons, hNil, hRet, hSet, hTset, hPar, parE, hIfe, hExpr, asg, asgs, gTup, gLst, gBin, gIx, gVar, gGlo, isCon, gNeg, gNo, gCmp, gCmp2, gIfe, gAnd, gOr, gCall, gBi, gIsi, isT, isCel, gSl, gPart, ixP, pyIx, gCons, gNil, rd, rdT, truth, binop, binI, cmpop, cmpI, eqOk, dep, deps, eqP, eqPs, biF, mapO, stor, toR, toE, fin, line, noCs, noC, noLr, noL, noLs, lent, isR, noCr, ofR, callP_fnv, seqOf, intsOf, blsOf, minI, maxI, zipP, zipSeq, f72, m16, h1, h2, g6, g7]
theorem m22r (C0 : Int) (a b : Int) (ha : a.natAbs < 2) (hb : b.natAbs < 2) (hk : k.natAbs < 18446744073709551616) : fv (n+2) 22 [t3 a b C0, .int k] = some (.v (t3 (k * a) (k * b) (k * C0 + (k * (k - 1)).fdiv 2 * a * b))) := by
  have h1 := mulOkL (j := C0) hk
  have h2 := mulOkR (i := k) (j := a) (by omega)
  have h3 := mulOkR (i := k) (j := b) (by omega)
  have h4 := mulOkR (i := (k * (k - 1)).fdiv 2) (j := a) (by omega)
  have h5 := mulOkR (i := (k * (k - 1)).fdiv 2 * a) (j := b) (by omega)
  rw [e _ 22 _ f22 rfl]
  simp [run, exs, ex, ev, evs, evB, evO, evC, evI, hCons, hNil, hRet, hSet, hTset, hPar, parE, hIfe, hExpr, asg, asgs, gTup, gLst, gBin, gIx, gVar, gGlo, isCon, gNeg, gNo, gCmp, gCmp2, gIfe, gAnd, gOr, gCall, gBi, gIsi, isT, isCel, gSl, gPart, ixP, pyIx, gCons, gNil, rd, rdT, truth, binop, binI, cmpop, cmpI, eqOk, dep, deps, eqP, eqPs, biF, mapO, stor, toR, toE, fin, line, noCs, noC, noLr, noL, noLs, lent, isR, noCr, ofR, callP_fnv, seqOf, intsOf, blsOf, minI, maxI, zipP, zipSeq, f22, m11, h1, h2, h3, h4, h5]
theorem m71 (P Q : Int) (hx : x.natAbs < 18446744073709551616) (hy : y.natAbs < 18446744073709551616) : fv (n+8) 71 [.tup [t3 1 0 (-Q), t3 0 1 P], t3 x y z] = some (.v (t3 x y (z + (P * y - Q * x)))) := by
  have h1 := m22r (n+4) y P 0 1 (by decide) (by decide) hy
  have h2 := m22r (n+4) x (-Q) 1 0 (by decide) (by decide) hx
  have a0 : ∀ u, mulOk 0 u = true := fun u => mulOkL (by decide)
  have a1 : ∀ u, mulOk 1 u = true := fun u => mulOkL (by decide)
  have b0 : ∀ u, mulOk u 0 = true := fun u => mulOkR (by decide)
  have b1 : ∀ u, mulOk u 1 = true := fun u => mulOkR (by decide)
  simp only [Int.mul_zero, Int.mul_one, Int.zero_mul, Int.add_zero] at h1 h2
  have h3 : fv (n+6) 18 [t3 0 y (y * P), t3 x 0 (x * -Q)] = some (.v (t3 (0 + x) (y + 0) (y * P + x * -Q + 0 * 0))) := by
    rw [e _ 18 _ f18 rfl]
    simp [run, exs, ex, ev, evs, evB, evO, evC, evI, hCons, hNil, hRet, hSet, hTset, hPar, parE, hIfe, hExpr, asg, asgs, gTup, gLst, gBin, gIx, gVar, gGlo, isCon, gNeg, gNo, gCmp, gCmp2, gIfe, gAnd, gOr, gCall, gBi, gIsi, isT, isCel, gSl, gPart, ixP, pyIx, gCons, gNil, rd, rdT, truth, binop, binI, cmpop, cmpI, eqOk, dep, deps, eqP, eqPs, biF, mapO, stor, toR, toE, fin, line, noCs, noC, noLr, noL, noLs, lent, isR, noCr, ofR, callP_fnv, seqOf, intsOf, blsOf, minI, maxI, zipP, zipSeq, f18, a0]
  have h4 : fv (n+6) 24 [t3 1 0 (-Q), t3 0 1 P] = some (.v (.int 1)) := by
    rw [e _ 24 _ f24 rfl]
    simp [run, exs, ex, ev, evs, evB, evO, evC, evI, hCons, hNil, hRet, hSet, hTset, hPar, parE, hIfe, hExpr, asg, asgs, gTup, gLst, gBin, gIx, gVar, gGlo, isCon, gNeg, gNo, gCmp, gCmp2, gIfe, gAnd, gOr, gCall, gBi, gIsi, isT, isCel, gSl, gPart, ixP, pyIx, gCons, gNil, rd, rdT, truth, binop, binI, cmpop, cmpI, eqOk, dep, deps, eqP, eqPs, biF, mapO, stor, toR, toE, fin, line, noCs, noC, noLr, noL, noLs, lent, isR, noCr, ofR, callP_fnv, seqOf, intsOf, blsOf, minI, maxI, zipP, zipSeq, f24, a0, a1]
  have h5 : fv (n+7) 70 [.tup [t3 1 0 (-Q), t3 0 1 P], t3 x y z] = some (.v (t3 x y (z + (P * y - Q * x)))) := by
    rw [e _ 70 _ f70 rfl]
    simp [run, exs, ex, ev, evs, evB, evO, evC, evI, hCons, hNil, hRet, hSet, hTset, hPar, parE, hIfe, hExpr, asg, asgs, gTup, gLst, gBin, gIx, gVar, gGlo, isCon, gNeg, gNo, gCmp, gCmp2, gIfe, gAnd, gOr, gCall, gBi, gIsi, isT, isCel, gSl, gPart, ixP, pyIx, gCons, gNil, rd, rdT, truth, binop, binI, cmpop, cmpI, eqOk, dep, deps, eqP, eqPs, biF, mapO, stor, toR, toE, fin, line, noCs, noC, noLr, noL, noLs, lent, isR, noCr, ofR, callP_fnv, seqOf, intsOf, blsOf, minI, maxI, zipP, zipSeq, f70, h1, h2, h3, h4, a1]
    rw [Int.mul_neg, Int.mul_comm y, Int.mul_comm x]
    omega
  rw [e _ 71 _ f71 rfl]
  simp [run, exs, ex, ev, evs, evB, evO, evC, evI, hCons, hNil, hRet, hSet, hTset, hPar, parE, hIfe, hExpr, asg, asgs, gTup, gLst, gBin, gIx, gVar, gGlo, isCon, gNeg, gNo, gCmp, gCmp2, gIfe, gAnd, gOr, gCall, gBi, gIsi, isT, isCel, gSl, gPart, ixP, pyIx, gCons, gNil, rd, rdT, truth, binop, binI, cmpop, cmpI, eqOk, dep, deps, eqP, eqPs, biF, mapO, stor, toR, toE, fin, line, noCs, noC, noLr, noL, noLs, lent, isR, noCr, ofR, callP_fnv, seqOf, intsOf, blsOf, minI, maxI, zipP, zipSeq, f71, m69, m16, h5]
end
theorem m44 (x y z g9 : Int) [B2 x] [B2 y] [B2 z] [B2 g9] (P Q : Int) (hd : (if gc x y = 0 then decide (g9 = 0) else decide (g9.fmod (gc x y) = 0)) = true) (h0 : x = 0 ∧ y = 0 → P = 0 ∧ Q = 0) (h1 : ¬ (x = 0 ∧ y = 0) → ∀ m, fv (m+2) 40 [.int x, .int y, .int g9] = some (.v (.tup [.int P, .int Q]))) (n : Nat) :
    fv (n+6) 44 [t3 x y z, .int g9] = some (.v (.tup [.int P, .int Q])) := by
  have h14 := m14 (n+4) (gc x y) g9
  rw [hd] at h14
  rw [e _ 44 _ f44 rfl]
  by_cases c : x = 0 ∧ y = 0
  · obtain ⟨p0, q0⟩ := h0 c
    subst p0 q0
    have g0' : gc x y = 0 := by rw [c.1, c.2]; rfl
    rw [g0'] at h14
    simp [run, exs, ex, ev, evs, evB, evO, evC, evI, hCons, hNil, hRet, hSet, hTset, hPar, parE, hIfe, hExpr, asg, asgs, gTup, gLst, gBin, gIx, gVar, gGlo, isCon, gNeg, gNo, gCmp, gCmp2, gIfe, gAnd, gOr, gCall, gBi, gIsi, isT, isCel, gSl, gPart, ixP, pyIx, gCons, gNil, rd, rdT, truth, binop, binI, cmpop, cmpI, eqOk, dep, deps, eqP, eqPs, biF, mapO, stor, toR, toE, fin, line, noCs, noC, noLr, noL, noLs, lent, isR, noCr, ofR, callP_fnv, seqOf, intsOf, blsOf, minI, maxI, zipP, zipSeq, f44, m16, m8, m36, h14, g0']
  · have gp := gc_pos c
    have g0' : ¬ gc x y = 0 := by omega
    have h40 := h1 c (n+3)
    have c3 : (!decide (x = 0) || !decide (y = 0)) = true := by
      by_cases p : x = 0
      · have : ¬ y = 0 := fun q => c ⟨p, q⟩
        simp [this]
      · simp [p]
    simp [run, exs, ex, ev, evs, evB, evO, evC, evI, hCons, hNil, hRet, hSet, hTset, hPar, parE, hIfe, hExpr, asg, asgs, gTup, gLst, gBin, gIx, gVar, gGlo, isCon, gNeg, gNo, gCmp, gCmp2, gIfe, gAnd, gOr, gCall, gBi, gIsi, isT, isCel, gSl, gPart, ixP, pyIx, gCons, gNil, rd, rdT, truth, binop, binI, cmpop, cmpI, eqOk, dep, deps, eqP, eqPs, biF, mapO, stor, toR, toE, fin, line, noCs, noC, noLr, noL, noLs, lent, isR, noCr, ofR, callP_fnv, seqOf, intsOf, blsOf, minI, maxI, zipP, zipSeq, f44, m16, m8, m36, h14, g0', h40, c3]
end A71

set_option linter.all false
set_option maxRecDepth 100000
set_option maxHeartbeats 4000000
namespace A71
open Py
/-! ### the club of what commutes with one deed -/
instance : B2 (0 : Int) := B2.of (a := 0) (by decide)
instance : B2 (1 : Int) := B2.of (a := 1) (by decide)
theorem m13 (n : Nat) (z c : Int) : fv (n+1) 13 [.int z, .int c] = some (.v (.int (if c = 0 then z else z.fmod c))) := by
  rw [e _ 13 _ f13 rfl]
  by_cases h : c = 0
  · simp [run, exs, ex, ev, evs, evB, evO, evC, evI, hCons, hNil, hRet, hSet, hTset, hPar, parE, hIfe, hExpr, asg, asgs, gTup, gLst, gBin, gIx, gVar, gGlo, isCon, gNeg, gNo, gCmp, gCmp2, gIfe, gAnd, gOr, gCall, gBi, gIsi, isT, isCel, gSl, gPart, ixP, pyIx, gCons, gNil, rd, rdT, truth, binop, binI, cmpop, cmpI, eqOk, dep, deps, eqP, eqPs, biF, mapO, stor, toR, toE, fin, line, noCs, noC, noLr, noL, noLs, lent, isR, noCr, ofR, callP_fnv, seqOf, intsOf, blsOf, minI, maxI, zipP, zipSeq, f13, h]
  · simp [run, exs, ex, ev, evs, evB, evO, evC, evI, hCons, hNil, hRet, hSet, hTset, hPar, parE, hIfe, hExpr, asg, asgs, gTup, gLst, gBin, gIx, gVar, gGlo, isCon, gNeg, gNo, gCmp, gCmp2, gIfe, gAnd, gOr, gCall, gBi, gIsi, isT, isCel, gSl, gPart, ixP, pyIx, gCons, gNil, rd, rdT, truth, binop, binI, cmpop, cmpI, eqOk, dep, deps, eqP, eqPs, biF, mapO, stor, toR, toE, fin, line, noCs, noC, noLr, noL, noLs, lent, isR, noCr, ofR, callP_fnv, seqOf, intsOf, blsOf, minI, maxI, zipP, zipSeq, f13, h]
theorem c00 (n : Nat) : fv (n+1) 7 [.int 0, .int 0] = some (.v (.int 0)) := m7g (b := 0) (by decide)
theorem c01 (n : Nat) : fv (n+1) 7 [.int 0, .int 1] = some (.v (.int 1)) := m7g (b := 1) (by decide)
section
variable (n : Nat) (a b : Int) [B2 a] [B2 b]
/-- the first row -/
theorem w1 (h : a ≠ 0) : ∃ B Z : Int, fv (n+4) 47 [.tup [.non, .non, .int 0], t3 a b 0] = some (.v (.tup [t3 (a.natAbs : Nat) B Z, .non, .int 0])) ∧ (a < 0 → B = -b) ∧ (0 < a → B = b) := by
  have h20 := m20 (n+1) a b 0
  by_cases c : a < 0
  · refine ⟨-b, a * b - 0, ?_, fun _ => rfl, fun q => by omega⟩
    have h46 : fv (n+3) 46 [t3 a b 0, .non, .int 0] = some (.v (.tup [t3 (-a) (-b) (a * b - 0), .non, .int 0])) := by
      rw [e _ 46 _ f46 rfl]
      simp [run, exs, ex, ev, evs, evB, evO, evC, evI, hCons, hNil, hRet, hSet, hTset, hPar, parE, hIfe, hExpr, asg, asgs, gTup, gLst, gBin, gIx, gVar, gGlo, isCon, gNeg, gNo, gCmp, gCmp2, gIfe, gAnd, gOr, gCall, gBi, gIsi, isT, isCel, gSl, gPart, ixP, pyIx, gCons, gNil, rd, rdT, truth, binop, binI, cmpop, cmpI, eqOk, dep, deps, eqP, eqPs, biF, mapO, stor, toR, toE, fin, line, noCs, noC, noLr, noL, noLs, lent, isR, noCr, ofR, callP_fnv, seqOf, intsOf, blsOf, minI, maxI, zipP, zipSeq, f46, h20, c, m13]
    rw [e _ 47 _ f47 rfl, show ((a.natAbs : Nat) : Int) = -a by omega]
    simp [run, exs, ex, ev, evs, evB, evO, evC, evI, hCons, hNil, hRet, hSet, hTset, hPar, parE, hIfe, hExpr, asg, asgs, gTup, gLst, gBin, gIx, gVar, gGlo, isCon, gNeg, gNo, gCmp, gCmp2, gIfe, gAnd, gOr, gCall, gBi, gIsi, isT, isCel, gSl, gPart, ixP, pyIx, gCons, gNil, rd, rdT, truth, binop, binI, cmpop, cmpI, eqOk, dep, deps, eqP, eqPs, biF, mapO, stor, toR, toE, fin, line, noCs, noC, noLr, noL, noLs, lent, isR, noCr, ofR, callP_fnv, seqOf, intsOf, blsOf, minI, maxI, zipP, zipSeq, f47, h, c00, h46, g0]
  · refine ⟨b, 0, ?_, fun q => absurd q c, fun _ => rfl⟩
    have h46 : fv (n+3) 46 [t3 a b 0, .non, .int 0] = some (.v (.tup [t3 a b 0, .non, .int 0])) := by
      rw [e _ 46 _ f46 rfl]
      simp [run, exs, ex, ev, evs, evB, evO, evC, evI, hCons, hNil, hRet, hSet, hTset, hPar, parE, hIfe, hExpr, asg, asgs, gTup, gLst, gBin, gIx, gVar, gGlo, isCon, gNeg, gNo, gCmp, gCmp2, gIfe, gAnd, gOr, gCall, gBi, gIsi, isT, isCel, gSl, gPart, ixP, pyIx, gCons, gNil, rd, rdT, truth, binop, binI, cmpop, cmpI, eqOk, dep, deps, eqP, eqPs, biF, mapO, stor, toR, toE, fin, line, noCs, noC, noLr, noL, noLs, lent, isR, noCr, ofR, callP_fnv, seqOf, intsOf, blsOf, minI, maxI, zipP, zipSeq, f46, h20, c, m13]
    rw [e _ 47 _ f47 rfl, show ((a.natAbs : Nat) : Int) = a by omega]
    simp [run, exs, ex, ev, evs, evB, evO, evC, evI, hCons, hNil, hRet, hSet, hTset, hPar, parE, hIfe, hExpr, asg, asgs, gTup, gLst, gBin, gIx, gVar, gGlo, isCon, gNeg, gNo, gCmp, gCmp2, gIfe, gAnd, gOr, gCall, gBi, gIsi, isT, isCel, gSl, gPart, ixP, pyIx, gCons, gNil, rd, rdT, truth, binop, binI, cmpop, cmpI, eqOk, dep, deps, eqP, eqPs, biF, mapO, stor, toR, toE, fin, line, noCs, noC, noLr, noL, noLs, lent, isR, noCr, ofR, callP_fnv, seqOf, intsOf, blsOf, minI, maxI, zipP, zipSeq, f47, h, c00, h46, g0]
theorem w2 (A B Z : Int) (hA : 0 < A) : fv (n+4) 47 [.tup [t3 A B Z, .non, .int 0], t3 0 0 1] = some (.v (.tup [t3 A B 0, .non, .int 1])) := by
  have c : ¬ A < 0 := by omega
  have z1 : Z.fmod 1 = 0 := by simp
  have h46 : fv (n+3) 46 [t3 A B Z, .non, .int 1] = some (.v (.tup [t3 A B 0, .non, .int 1])) := by
    rw [e _ 46 _ f46 rfl]
    simp [run, exs, ex, ev, evs, evB, evO, evC, evI, hCons, hNil, hRet, hSet, hTset, hPar, parE, hIfe, hExpr, asg, asgs, gTup, gLst, gBin, gIx, gVar, gGlo, isCon, gNeg, gNo, gCmp, gCmp2, gIfe, gAnd, gOr, gCall, gBi, gIsi, isT, isCel, gSl, gPart, ixP, pyIx, gCons, gNil, rd, rdT, truth, binop, binI, cmpop, cmpI, eqOk, dep, deps, eqP, eqPs, biF, mapO, stor, toR, toE, fin, line, noCs, noC, noLr, noL, noLs, lent, isR, noCr, ofR, callP_fnv, seqOf, intsOf, blsOf, minI, maxI, zipP, zipSeq, f46, c, m13, z1]
  rw [e _ 47 _ f47 rfl]
  simp [run, exs, ex, ev, evs, evB, evO, evC, evI, hCons, hNil, hRet, hSet, hTset, hPar, parE, hIfe, hExpr, asg, asgs, gTup, gLst, gBin, gIx, gVar, gGlo, isCon, gNeg, gNo, gCmp, gCmp2, gIfe, gAnd, gOr, gCall, gBi, gIsi, isT, isCel, gSl, gPart, ixP, pyIx, gCons, gNil, rd, rdT, truth, binop, binI, cmpop, cmpI, eqOk, dep, deps, eqP, eqPs, biF, mapO, stor, toR, toE, fin, line, noCs, noC, noLr, noL, noLs, lent, isR, noCr, ofR, callP_fnv, seqOf, intsOf, blsOf, minI, maxI, zipP, zipSeq, f47, c01, h46, g0]
theorem w3 (h : b ≠ 0) : fv (n+4) 47 [.tup [.non, .non, .int 0], t3 0 b 0] = some (.v (.tup [.non, t3 0 (b.natAbs : Nat) 0, .int 0])) := by
  have h20 := m20 (n+1) 0 b 0
  by_cases c : b < 0
  · have h46 : fv (n+3) 46 [.non, t3 0 b 0, .int 0] = some (.v (.tup [.non, t3 0 (-b) 0, .int 0])) := by
      rw [e _ 46 _ f46 rfl]
      simp [run, exs, ex, ev, evs, evB, evO, evC, evI, hCons, hNil, hRet, hSet, hTset, hPar, parE, hIfe, hExpr, asg, asgs, gTup, gLst, gBin, gIx, gVar, gGlo, isCon, gNeg, gNo, gCmp, gCmp2, gIfe, gAnd, gOr, gCall, gBi, gIsi, isT, isCel, gSl, gPart, ixP, pyIx, gCons, gNil, rd, rdT, truth, binop, binI, cmpop, cmpI, eqOk, dep, deps, eqP, eqPs, biF, mapO, stor, toR, toE, fin, line, noCs, noC, noLr, noL, noLs, lent, isR, noCr, ofR, callP_fnv, seqOf, intsOf, blsOf, minI, maxI, zipP, zipSeq, f46, h20, c, m13]
    rw [e _ 47 _ f47 rfl, show ((b.natAbs : Nat) : Int) = -b by omega]
    simp [run, exs, ex, ev, evs, evB, evO, evC, evI, hCons, hNil, hRet, hSet, hTset, hPar, parE, hIfe, hExpr, asg, asgs, gTup, gLst, gBin, gIx, gVar, gGlo, isCon, gNeg, gNo, gCmp, gCmp2, gIfe, gAnd, gOr, gCall, gBi, gIsi, isT, isCel, gSl, gPart, ixP, pyIx, gCons, gNil, rd, rdT, truth, binop, binI, cmpop, cmpI, eqOk, dep, deps, eqP, eqPs, biF, mapO, stor, toR, toE, fin, line, noCs, noC, noLr, noL, noLs, lent, isR, noCr, ofR, callP_fnv, seqOf, intsOf, blsOf, minI, maxI, zipP, zipSeq, f47, h, c00, h46, g0]
  · have h46 : fv (n+3) 46 [.non, t3 0 b 0, .int 0] = some (.v (.tup [.non, t3 0 b 0, .int 0])) := by
      rw [e _ 46 _ f46 rfl]
      simp [run, exs, ex, ev, evs, evB, evO, evC, evI, hCons, hNil, hRet, hSet, hTset, hPar, parE, hIfe, hExpr, asg, asgs, gTup, gLst, gBin, gIx, gVar, gGlo, isCon, gNeg, gNo, gCmp, gCmp2, gIfe, gAnd, gOr, gCall, gBi, gIsi, isT, isCel, gSl, gPart, ixP, pyIx, gCons, gNil, rd, rdT, truth, binop, binI, cmpop, cmpI, eqOk, dep, deps, eqP, eqPs, biF, mapO, stor, toR, toE, fin, line, noCs, noC, noLr, noL, noLs, lent, isR, noCr, ofR, callP_fnv, seqOf, intsOf, blsOf, minI, maxI, zipP, zipSeq, f46, h20, c, m13]
    rw [e _ 47 _ f47 rfl, show ((b.natAbs : Nat) : Int) = b by omega]
    simp [run, exs, ex, ev, evs, evB, evO, evC, evI, hCons, hNil, hRet, hSet, hTset, hPar, parE, hIfe, hExpr, asg, asgs, gTup, gLst, gBin, gIx, gVar, gGlo, isCon, gNeg, gNo, gCmp, gCmp2, gIfe, gAnd, gOr, gCall, gBi, gIsi, isT, isCel, gSl, gPart, ixP, pyIx, gCons, gNil, rd, rdT, truth, binop, binI, cmpop, cmpI, eqOk, dep, deps, eqP, eqPs, biF, mapO, stor, toR, toE, fin, line, noCs, noC, noLr, noL, noLs, lent, isR, noCr, ofR, callP_fnv, seqOf, intsOf, blsOf, minI, maxI, zipP, zipSeq, f47, h, c00, h46, g0]
theorem w4 (B : Int) (hB : 0 < B) : fv (n+4) 47 [.tup [.non, t3 0 B 0, .int 0], t3 0 0 1] = some (.v (.tup [.non, t3 0 B 0, .int 1])) := by
  have c : ¬ B < 0 := by omega
  have h46 : fv (n+3) 46 [.non, t3 0 B 0, .int 1] = some (.v (.tup [.non, t3 0 B 0, .int 1])) := by
    rw [e _ 46 _ f46 rfl]
    simp [run, exs, ex, ev, evs, evB, evO, evC, evI, hCons, hNil, hRet, hSet, hTset, hPar, parE, hIfe, hExpr, asg, asgs, gTup, gLst, gBin, gIx, gVar, gGlo, isCon, gNeg, gNo, gCmp, gCmp2, gIfe, gAnd, gOr, gCall, gBi, gIsi, isT, isCel, gSl, gPart, ixP, pyIx, gCons, gNil, rd, rdT, truth, binop, binI, cmpop, cmpI, eqOk, dep, deps, eqP, eqPs, biF, mapO, stor, toR, toE, fin, line, noCs, noC, noLr, noL, noLs, lent, isR, noCr, ofR, callP_fnv, seqOf, intsOf, blsOf, minI, maxI, zipP, zipSeq, f46, c, m13]
  rw [e _ 47 _ f47 rfl]
  simp [run, exs, ex, ev, evs, evB, evO, evC, evI, hCons, hNil, hRet, hSet, hTset, hPar, parE, hIfe, hExpr, asg, asgs, gTup, gLst, gBin, gIx, gVar, gGlo, isCon, gNeg, gNo, gCmp, gCmp2, gIfe, gAnd, gOr, gCall, gBi, gIsi, isT, isCel, gSl, gPart, ixP, pyIx, gCons, gNil, rd, rdT, truth, binop, binI, cmpop, cmpI, eqOk, dep, deps, eqP, eqPs, biF, mapO, stor, toR, toE, fin, line, noCs, noC, noLr, noL, noLs, lent, isR, noCr, ofR, callP_fnv, seqOf, intsOf, blsOf, minI, maxI, zipP, zipSeq, f47, c01, h46, g0]
end
/-- the pairs that keep one end -/
theorem m52z (n : Nat) : fv (n+4) 52 [.lst [.tup [.int 0, .int 0]], .int 0] = some (.v (.lst [.tup [.int 1, .int 0], .tup [.int 0, .int 1]])) ∨ fv (n+4) 52 [.lst [.tup [.int 0, .int 0]], .int 0] = some (.own (.lst [.tup [.int 1, .int 0], .tup [.int 0, .int 1]])) := by
  first | (left; rfl) | (right; rfl)
theorem m52 (n : Nat) (x y : Int) [B2 x] [B2 y] (h : ¬ (x = 0 ∧ y = 0)) : fv (n+4) 52 [.lst [.tup [.int x, .int y]], .int 0] = some (.v (.lst [.tup [.int ((-x).fdiv (gc y (-x))), .int ((-y).fdiv (gc y (-x)))]])) := by
  have c : ¬ (y = 0 ∧ -x = 0) := fun q => h ⟨by omega, q.1⟩
  have gp := gc_pos c
  have gn : ¬ gc y (-x) = 0 := by omega
  have gl := lgB (i := gc y (-x))
  have c2 : (decide (y = 0) && decide (x = 0)) = false := by simpa using fun a b => h ⟨b, a⟩
  have h49 : fv (n+2) 49 [.int y, .int (-x), .int 0] = some (.own (.lst [.tup [.int ((-x).fdiv (gc y (-x))), .int ((-y).fdiv (gc y (-x)))]])) := by
    rw [e _ 49 _ f49 rfl]
    have h7 := m7 n y (-x)
    have gl2 : (y.natAbs.gcd x.natAbs).log2 < 9000 := by simpa using gl
    by_cases hy : y = 0
    · have hx : ¬ x = 0 := fun q => h ⟨q, hy⟩
      subst hy
      have lx := lgB (i := x)
      simp [run, exs, ex, ev, evs, evB, evO, evC, evI, hCons, hNil, hRet, hSet, hTset, hPar, parE, hIfe, hExpr, asg, asgs, gTup, gLst, gBin, gIx, gVar, gGlo, isCon, gNeg, gNo, gCmp, gCmp2, gIfe, gAnd, gOr, gCall, gBi, gIsi, isT, isCel, gSl, gPart, ixP, pyIx, gCons, gNil, rd, rdT, truth, binop, binI, cmpop, cmpI, eqOk, dep, deps, eqP, eqPs, biF, mapO, stor, toR, toE, fin, line, noCs, noC, noLr, noL, noLs, lent, isR, noCr, ofR, callP_fnv, seqOf, intsOf, blsOf, minI, maxI, zipP, zipSeq, f49, h7, gn, gl, gl2, hx, lx]
    · simp [run, exs, ex, ev, evs, evB, evO, evC, evI, hCons, hNil, hRet, hSet, hTset, hPar, parE, hIfe, hExpr, asg, asgs, gTup, gLst, gBin, gIx, gVar, gGlo, isCon, gNeg, gNo, gCmp, gCmp2, gIfe, gAnd, gOr, gCall, gBi, gIsi, isT, isCel, gSl, gPart, ixP, pyIx, gCons, gNil, rd, rdT, truth, binop, binI, cmpop, cmpI, eqOk, dep, deps, eqP, eqPs, biF, mapO, stor, toR, toE, fin, line, noCs, noC, noLr, noL, noLs, lent, isR, noCr, ofR, callP_fnv, seqOf, intsOf, blsOf, minI, maxI, zipP, zipSeq, f49, h7, gn, gl, gl2, hy]
  have u1 : ∀ u, mulOk u 1 = true := fun u => mulOkR (by decide)
  have u0 : ∀ u, mulOk u 0 = true := fun u => mulOkR (by decide)
  have v1 : ∀ u, mulOk 1 u = true := fun u => mulOkL (by decide)
  have v0 : ∀ u, mulOk 0 u = true := fun u => mulOkL (by decide)
  have h50 : ∀ u v : Int, fv (n+2) 50 [.lst [.tup [.int 1, .int 0], .tup [.int 0, .int 1]], .tup [.int u, .int v]] = some (.v (.tup [.int u, .int v])) := fun u v => by
    rw [e _ 50 _ f50 rfl]
    simp [run, exs, ex, ev, evs, evB, evO, evC, evI, hCons, hNil, hRet, hSet, hTset, hPar, parE, hIfe, hExpr, asg, asgs, gTup, gLst, gBin, gIx, gVar, gGlo, isCon, gNeg, gNo, gCmp, gCmp2, gIfe, gAnd, gOr, gCall, gBi, gIsi, isT, isCel, gSl, gPart, ixP, pyIx, gCons, gNil, rd, rdT, truth, binop, binI, cmpop, cmpI, eqOk, dep, deps, eqP, eqPs, biF, mapO, stor, toR, toE, fin, line, noCs, noC, noLr, noL, noLs, lent, isR, noCr, ofR, callP_fnv, seqOf, intsOf, blsOf, minI, maxI, zipP, zipSeq, f50, u1, u0]
  have h53 : fv (n+3) 53 [.lst [.tup [.int 1, .int 0], .tup [.int 0, .int 1]], .lst [.int y, .int (-x)], .int 0] = some (.own (.lst [.tup [.int ((-x).fdiv (gc y (-x))), .int ((-y).fdiv (gc y (-x)))]])) := by
    rw [e _ 53 _ f53 rfl]
    simp [run, exs, ex, ev, evs, evB, evO, evC, evI, hCons, hNil, hRet, hSet, hTset, hPar, parE, hIfe, hExpr, asg, asgs, gTup, gLst, gBin, gIx, gVar, gGlo, isCon, gNeg, gNo, gCmp, gCmp2, gIfe, gAnd, gOr, gCall, gBi, gIsi, isT, isCel, gSl, gPart, ixP, pyIx, gCons, gNil, rd, rdT, truth, binop, binI, cmpop, cmpI, eqOk, dep, deps, eqP, eqPs, biF, mapO, stor, toR, toE, fin, line, noCs, noC, noLr, noL, noLs, lent, isR, noCr, ofR, callP_fnv, seqOf, intsOf, blsOf, minI, maxI, zipP, zipSeq, g0, g3, g4, augP, augOp, hTurn, hAug, f53, h49, h50, gVal, itemsOf, gComp, gStep, gKeep, compL, wipe, lock, unlock]
  rw [e _ 52 _ f52 rfl]
  simp [run, exs, ex, ev, evs, evB, evO, evC, evI, hCons, hNil, hRet, hSet, hTset, hPar, parE, hIfe, hExpr, asg, asgs, gTup, gLst, gBin, gIx, gVar, gGlo, isCon, gNeg, gNo, gCmp, gCmp2, gIfe, gAnd, gOr, gCall, gBi, gIsi, isT, isCel, gSl, gPart, ixP, pyIx, gCons, gNil, rd, rdT, truth, binop, binI, cmpop, cmpI, eqOk, dep, deps, eqP, eqPs, biF, mapO, stor, toR, toE, fin, line, noCs, noC, noLr, noL, noLs, lent, isR, noCr, ofR, callP_fnv, seqOf, intsOf, blsOf, minI, maxI, zipP, zipSeq, g0, g3, g4, augP, augOp, hTurn, hAug, f52, h53, u1, u0, v1, v0, hFor, gVal, itemsOf, forL, gComp, gStep, gKeep, compL, wipe, lock, unlock]
/-- the three shapes of the club -/
inductive Room (x y : Int) : PV → List (Int × Int × Int) → Prop
  | all : x = 0 → y = 0 → Room x y (.tup [t3 1 0 0, t3 0 1 0, .int 1]) [(1, 0, 0), (0, 1, 0), (0, 0, 1)]
  | row {A B : Int} : 0 < A → A.natAbs < 2 ^ 63 → B.natAbs < 2 ^ 63 → A * y - B * x = 0 → Room x y (.tup [t3 A B 0, .non, .int 1]) [(A, B, 0), (0, 0, 1)]
  | up {B : Int} : 0 < B → B.natAbs < 2 ^ 63 → x = 0 → Room x y (.tup [.non, t3 0 B 0, .int 1]) [(0, B, 0), (0, 0, 1)]
theorem gc_neg (x y : Int) : gc y (-x) = gc x y := by
  show ((Nat.gcd y.natAbs (-x).natAbs : Nat) : Int) = ((Nat.gcd x.natAbs y.natAbs : Nat) : Int)
  rw [Int.natAbs_neg, Nat.gcd_comm]
theorem m54 (x y z : Int) [B2 x] [B2 y] [B2 z] (hx : x.natAbs < 2 ^ 63) (hy : y.natAbs < 2 ^ 63) : ∃ R ms, Room x y R ms ∧ ∀ n, fv (n+7) 54 [.tup [t3 x y z]] = some (.v R) := by
  by_cases h : x = 0 ∧ y = 0
  · obtain ⟨rfl, rfl⟩ := h
    exact ⟨_, _, .all rfl rfl, fun n => by rfl⟩
  · obtain ⟨g, eg⟩ : ∃ g, g = gc y (-x) := ⟨_, rfl⟩
    have gp : 0 < g := by rw [eg]; exact gc_pos fun q => h ⟨by omega, q.1⟩
    have dx : g ∣ x := by rw [eg, gc_neg]; exact Int.gcd_dvd_left ..
    have dy : g ∣ y := by rw [eg, gc_neg]; exact Int.gcd_dvd_right ..
    obtain ⟨u, hu⟩ := dx
    obtain ⟨v, hv⟩ := dy
    have ea : (-x).fdiv g = -u := by rw [hu, Int.mul_comm, ← Int.neg_mul]; exact Int.mul_fdiv_cancel _ (by omega)
    have eb : (-y).fdiv g = -v := by rw [hv, Int.mul_comm, ← Int.neg_mul]; exact Int.mul_fdiv_cancel _ (by omega)
    have ba : (-u).natAbs < 2 ^ 63 := by rw [← ea]; exact Nat.lt_of_le_of_lt (natAbs_fdiv_le _ _) (by rw [Int.natAbs_neg]; exact hx)
    have bb : (-v).natAbs < 2 ^ 63 := by rw [← eb]; exact Nat.lt_of_le_of_lt (natAbs_fdiv_le _ _) (by rw [Int.natAbs_neg]; exact hy)
    haveI : B2 (-u) := ⟨Nat.lt_trans ba (by decide)⟩
    haveI : B2 (-v) := ⟨Nat.lt_trans bb (by decide)⟩
    have h52 := fun n => m52 n x y h
    rw [← eg, ea, eb] at h52
    have two : ∀ {n : Nat} {R1 R2 : PV}, noC R1 = true → noC R2 = true → fv (n+5) 47 [.tup [.non, .non, .int 0], t3 (-u) (-v) 0] = some (.v R1) → fv (n+5) 47 [R1, t3 0 0 1] = some (.v R2) → fv (n+7) 54 [.tup [t3 x y z]] = some (.v R2) := fun {n R1 R2} c1 c2 q1 q2 => by
      have h48 : fv (n+6) 48 [.lst [t3 (-u) (-v) 0, t3 0 0 1]] = some (.v R2) := by
        rw [e _ 48 _ f48 rfl]
        simp [run, exs, ex, ev, evs, evB, evO, evC, evI, hCons, hNil, hRet, hSet, hTset, hPar, parE, hIfe, hExpr, asg, asgs, gTup, gLst, gBin, gIx, gVar, gGlo, isCon, gNeg, gNo, gCmp, gCmp2, gIfe, gAnd, gOr, gCall, gBi, gIsi, isT, isCel, gSl, gPart, ixP, pyIx, gCons, gNil, rd, rdT, truth, binop, binI, cmpop, cmpI, eqOk, dep, deps, eqP, eqPs, biF, mapO, stor, toR, toE, fin, line, noCs, noC, noLr, noL, noLs, lent, isR, noCr, ofR, callP_fnv, seqOf, intsOf, blsOf, minI, maxI, zipP, zipSeq, g0, g3, g4, augP, augOp, hTurn, hAug, f48, g1, q1, q2, c1, c2, hFor, gVal, itemsOf, forL, lock, unlock]
      have h17 := m17 n x y z
      have h52 := h52 (n+2)
      rw [e _ 54 _ f54 rfl]
      simp [run, exs, ex, ev, evs, evB, evO, evC, evI, hCons, hNil, hRet, hSet, hTset, hPar, parE, hIfe, hExpr, asg, asgs, gTup, gLst, gBin, gIx, gVar, gGlo, isCon, gNeg, gNo, gCmp, gCmp2, gIfe, gAnd, gOr, gCall, gBi, gIsi, isT, isCel, gSl, gPart, ixP, pyIx, gCons, gNil, rd, rdT, truth, binop, binI, cmpop, cmpI, eqOk, dep, deps, eqP, eqPs, biF, mapO, stor, toR, toE, fin, line, noCs, noC, noLr, noL, noLs, lent, isR, noCr, ofR, callP_fnv, seqOf, intsOf, blsOf, minI, maxI, zipP, zipSeq, g0, g3, g4, augP, augOp, hTurn, hAug, f54, h17, h52, h48, c2, gComp, gStep, gKeep, gVal, itemsOf, compL, wipe, lock, unlock, slP, sIx, cut]
    by_cases hu0 : u = 0
    · subst hu0
      have hx0 : x = 0 := by rw [hu]; omega
      have hv0 : v ≠ 0 := fun q => h ⟨hx0, by rw [hv, q]; omega⟩
      have hB : (0 : Int) < (((-v).natAbs : Nat) : Int) := by omega
      refine ⟨_, _, .up hB (by omega) hx0, fun n => two rfl rfl ?_ (w4 (n+1) _ hB)⟩
      have := w3 (n+1) (-v) (by omega)
      rw [Int.neg_zero]
      exact this
    · obtain ⟨B, Z, q, s1, s2⟩ := w1 0 (-u) (-v) (by omega)
      have hA : (0 : Int) < (((-u).natAbs : Nat) : Int) := by omega
      have e1 : u * y = v * x := by
        rw [hu, hv]
        simp only [Int.mul_comm, Int.mul_left_comm]
      have lin : (((-u).natAbs : Nat) : Int) * y - B * x = 0 := by
        by_cases c : -u < 0
        · rw [s1 c, show (((-u).natAbs : Nat) : Int) = u by omega, Int.neg_neg, e1]
          omega
        · rw [s2 (by omega), show (((-u).natAbs : Nat) : Int) = -u by omega, Int.neg_mul, Int.neg_mul, e1]
          omega
      have bB : B.natAbs < 2 ^ 63 := by
        by_cases c : -u < 0
        · rw [s1 c]; omega
        · rw [s2 (by omega)]; exact bb
      refine ⟨_, _, .row hA (by omega) bB lin, fun n => ?_⟩
      obtain ⟨B', Z', q', s1', s2'⟩ := w1 (n+1) (-u) (-v) (by omega)
      have eB : B' = B := by
        by_cases c : -u < 0
        · rw [s1 c, s1' c]
        · rw [s2 (by omega), s2' (by omega)]
      subst eB
      exact two rfl rfl q' (w2 (n+1) _ _ _ hA)
/-- it holds the smallest of closed deeds -/
theorem m84 {x y : Int} {R : PV} {ms : List (Int × Int × Int)} (h : Room x y R ms) (n : Nat) : fv (n+3) 84 [R, t3 0 0 1] = some (.v (.bl true)) := by
  cases h with
  | all _ _ => rfl
  | @row A B hA bA bB _ =>
    haveI : B2 A := ⟨Nat.lt_trans bA (by decide)⟩
    haveI : B2 B := ⟨Nat.lt_trans bB (by decide)⟩
    have hA0 : ¬ A = 0 := by omega
    have lA := lgB (i := A)
    have h80 : fv (n+1) 80 [t3 A B 0, .int 0] = some (.v (t3 0 0 0)) := by simpa [tm] using m80 n A B 0 0
    have h79 : fv (n+1) 79 [t3 0 0 0, t3 0 0 1] = some (.v (t3 0 0 1)) := by rfl
    have h83 : fv (n+2) 83 [.tup [t3 A B 0, .non, .int 1], t3 0 0 1] = some (.v (t3 0 0 1)) := by
      rw [e _ 83 _ f83 rfl]
      simp [run, exs, ex, ev, evs, evB, evO, evC, evI, hCons, hNil, hRet, hSet, hTset, hPar, parE, hIfe, hExpr, asg, asgs, gTup, gLst, gBin, gIx, gVar, gGlo, isCon, gNeg, gNo, gCmp, gCmp2, gIfe, gAnd, gOr, gCall, gBi, gIsi, isT, isCel, gSl, gPart, ixP, pyIx, gCons, gNil, rd, rdT, truth, binop, binI, cmpop, cmpI, eqOk, dep, deps, eqP, eqPs, biF, mapO, stor, toR, toE, fin, line, noCs, noC, noLr, noL, noLs, lent, isR, noCr, ofR, callP_fnv, seqOf, intsOf, blsOf, minI, maxI, zipP, zipSeq, g0, g3, g4, augP, augOp, hTurn, hAug, f83, show Nat.log2 1 < 9000 by decide, h80, h79, hA0, lA, hFor, gVal, itemsOf, forL, gMk, hApp, isLst, cellOf, lock, unlock, slP, sIx, cut]
    rw [e _ 84 _ f84 rfl]
    simp [run, exs, ex, ev, evs, evB, evO, evC, evI, hCons, hNil, hRet, hSet, hTset, hPar, parE, hIfe, hExpr, asg, asgs, gTup, gLst, gBin, gIx, gVar, gGlo, isCon, gNeg, gNo, gCmp, gCmp2, gIfe, gAnd, gOr, gCall, gBi, gIsi, isT, isCel, gSl, gPart, ixP, pyIx, gCons, gNil, rd, rdT, truth, binop, binI, cmpop, cmpI, eqOk, dep, deps, eqP, eqPs, biF, mapO, stor, toR, toE, fin, line, noCs, noC, noLr, noL, noLs, lent, isR, noCr, ofR, callP_fnv, seqOf, intsOf, blsOf, minI, maxI, zipP, zipSeq, f84, h83]
  | @up B hB bB _ =>
    haveI : B2 B := ⟨Nat.lt_trans bB (by decide)⟩
    have hB0 : ¬ B = 0 := by omega
    have lB := lgB (i := B)
    have h80 : fv (n+1) 80 [t3 0 B 0, .int 0] = some (.v (t3 0 0 0)) := by simpa [tm] using m80 n 0 B 0 0
    have h79 : fv (n+1) 79 [t3 0 0 0, t3 0 0 1] = some (.v (t3 0 0 1)) := by rfl
    have h83 : fv (n+2) 83 [.tup [.non, t3 0 B 0, .int 1], t3 0 0 1] = some (.v (t3 0 0 1)) := by
      rw [e _ 83 _ f83 rfl]
      simp [run, exs, ex, ev, evs, evB, evO, evC, evI, hCons, hNil, hRet, hSet, hTset, hPar, parE, hIfe, hExpr, asg, asgs, gTup, gLst, gBin, gIx, gVar, gGlo, isCon, gNeg, gNo, gCmp, gCmp2, gIfe, gAnd, gOr, gCall, gBi, gIsi, isT, isCel, gSl, gPart, ixP, pyIx, gCons, gNil, rd, rdT, truth, binop, binI, cmpop, cmpI, eqOk, dep, deps, eqP, eqPs, biF, mapO, stor, toR, toE, fin, line, noCs, noC, noLr, noL, noLs, lent, isR, noCr, ofR, callP_fnv, seqOf, intsOf, blsOf, minI, maxI, zipP, zipSeq, g0, g3, g4, augP, augOp, hTurn, hAug, f83, show Nat.log2 1 < 9000 by decide, h80, h79, hB0, lB, hFor, gVal, itemsOf, forL, gMk, hApp, isLst, cellOf, lock, unlock, slP, sIx, cut]
    rw [e _ 84 _ f84 rfl]
    simp [run, exs, ex, ev, evs, evB, evO, evC, evI, hCons, hNil, hRet, hSet, hTset, hPar, parE, hIfe, hExpr, asg, asgs, gTup, gLst, gBin, gIx, gVar, gGlo, isCon, gNeg, gNo, gCmp, gCmp2, gIfe, gAnd, gOr, gCall, gBi, gIsi, isT, isCel, gSl, gPart, ixP, pyIx, gCons, gNil, rd, rdT, truth, binop, binI, cmpop, cmpI, eqOk, dep, deps, eqP, eqPs, biF, mapO, stor, toR, toE, fin, line, noCs, noC, noLr, noL, noLs, lent, isR, noCr, ofR, callP_fnv, seqOf, intsOf, blsOf, minI, maxI, zipP, zipSeq, f84, h83]
theorem m85 {x y : Int} {R : PV} {ms : List (Int × Int × Int)} (h : Room x y R ms) (n : Nat) : fv (n+1) 85 [R] = some (.own (.lst (ms.map fun d => t3 d.1 d.2.1 d.2.2))) := by
  cases h with
  | all _ _ => rfl
  | row _ _ _ _ => rfl
  | up _ _ _ => rfl
theorem room_in {x y : Int} {R : PV} {ms : List (Int × Int × Int)} (h : Room x y R ms) (d : Int × Int × Int) (hd : d ∈ ms) : d.1 * y - d.2.1 * x = 0 ∧ d.1.natAbs < 2 ^ 63 ∧ d.2.1.natAbs < 2 ^ 63 ∧ d.2.2.natAbs < 2 ^ 63 := by
  cases h with
  | all h1 h2 =>
    subst h1 h2
    simp at hd
    rcases hd with rfl | rfl | rfl <;> simp
  | row h1 h2 h3 h4 =>
    simp at hd
    rcases hd with rfl | rfl
    · exact ⟨h4, h2, h3, show (0 : Int).natAbs < 2 ^ 63 by decide⟩
    · simp
  | up h1 h2 h3 =>
    subst h3
    simp at hd
    rcases hd with rfl | rfl
    · exact ⟨by simp, show (0 : Int).natAbs < 2 ^ 63 by decide, h2, show (0 : Int).natAbs < 2 ^ 63 by decide⟩
    · simp
end A71

set_option linter.all false
set_option maxRecDepth 100000
set_option maxHeartbeats 4000000
namespace A71
open Py
theorem noC_room {x y : Int} {R : PV} {ms : List (Int × Int × Int)} (h : Room x y R ms) : noC R = true := by cases h <;> rfl
theorem m66 (n : Nat) (x y z z2 P Q : Int) [B2 x] [B2 y] [B2 z] [B2 z2] {R : PV} {ms : List (Int × Int × Int)} (hr : Room x y R ms) (hk : kinB x y z x y z2 = true) (h41 : fv (n+7) 41 [t3 x y z, t3 x y z2] = some (.v (t3 P Q 0))) (h54 : fv (n+7) 54 [.tup [t3 x y z]] = some (.v R)) : fv (n+8) 66 [t3 x y z, t3 x y z2] = some (.v (.tup [t3 P Q 0, R])) := by
  have h37 := m37 (n+4) x y z x y z2
  rw [hk] at h37
  have c := noC_room hr
  rw [e _ 66 _ f66 rfl]
  simp [run, exs, ex, ev, evs, evB, evO, evC, evI, hCons, hNil, hRet, hSet, hTset, hPar, parE, hIfe, hExpr, asg, asgs, gTup, gLst, gBin, gIx, gVar, gGlo, isCon, gNeg, gNo, gCmp, gCmp2, gIfe, gAnd, gOr, gCall, gBi, gIsi, isT, isCel, gSl, gPart, ixP, pyIx, gCons, gNil, rd, rdT, truth, binop, binI, cmpop, cmpI, eqOk, dep, deps, eqP, eqPs, biF, mapO, stor, toR, toE, fin, line, noCs, noC, noLr, noL, noLs, lent, isR, noCr, ofR, callP_fnv, seqOf, intsOf, blsOf, minI, maxI, zipP, zipSeq, f66, m16, h37, h41, h54, c]
/-! ### half ways -/
def halfO (x y z : Int) : Option (Int × Int × Int) := if x.fmod 2 = 0 ∧ y.fmod 2 = 0 ∧ (z - x.fdiv 2 * y.fdiv 2).fmod 2 = 0 then some (x.fdiv 2, y.fdiv 2, (z - x.fdiv 2 * y.fdiv 2).fdiv 2) else none
abbrev dX (x x2 : Int) : Int := -x + x2
abbrev dZ (x y z y2 z2 : Int) : Int := x * y - z + z2 + -x * y2
section
variable (n : Nat) (x y z x2 y2 z2 : Int) [B2 x] [B2 y] [B2 z] [B2 x2] [B2 y2] [B2 z2]
theorem t67 : (exs G (call G fs 5000 (n+5)) 5000 f67.body [some (.v (t3 x y z)), some (.v (t3 x2 y2 z2)), none, none, none, none, none] []).map (fun q => (q.1, q.2.2)) = some (match halfO (dX x x2) (dX y y2) (dZ x y z y2 z2) with | some d => .ret (.v (t3 d.1 d.2.1 d.2.2)) | none => .exc 0, []) := by
  have h20 := m20 (n+4) x y z
  have h18 : fv (n+5) 18 [t3 (-x) (-y) (x * y - z), t3 x2 y2 z2] = some (.v (t3 (dX x x2) (dX y y2) (dZ x y z y2 z2))) := by
    rw [e _ 18 _ f18 rfl]
    simp (decide := true) [run, exs, ex, ev, evs, evB, evO, evC, evI, hCons, hNil, hRet, hSet, hTset, hPar, parE, hIfe, hExpr, asg, asgs, gTup, gLst, gBin, gIx, gVar, gGlo, isCon, gNeg, gNo, gCmp, gCmp2, gIfe, gAnd, gOr, gCall, gBi, gIsi, isT, isCel, gSl, gPart, ixP, pyIx, gCons, gNil, rd, rdT, truth, binop, binI, cmpop, cmpI, eqOk, dep, deps, eqP, eqPs, biF, mapO, stor, toR, toE, fin, line, noCs, noC, noLr, noL, noLs, lent, isR, noCr, ofR, callP_fnv, seqOf, intsOf, blsOf, minI, maxI, zipP, zipSeq, f18, mulOk_bd]
  obtain ⟨X, eX⟩ : ∃ X, X = dX x x2 := ⟨_, rfl⟩
  obtain ⟨Y, eY⟩ : ∃ Y, Y = dX y y2 := ⟨_, rfl⟩
  obtain ⟨Z, eZ⟩ : ∃ Z, Z = dZ x y z y2 z2 := ⟨_, rfl⟩
  have hm : mulOk (X.fdiv 2) (Y.fdiv 2) = true := by
    rw [eX, eY]
    exact mulOk_bd (by decide)
  rw [← eX, ← eY, ← eZ] at h18 ⊢
  unfold halfO
  by_cases h1 : X.fmod 2 = 0
  · by_cases h2 : Y.fmod 2 = 0
    · by_cases h3 : (Z - X.fdiv 2 * Y.fdiv 2).fmod 2 = 0
      · simp [run, exs, ex, ev, evs, evB, evO, evC, evI, hCons, hNil, hRet, hSet, hTset, hPar, parE, hIfe, hExpr, asg, asgs, gTup, gLst, gBin, gIx, gVar, gGlo, isCon, gNeg, gNo, gCmp, gCmp2, gIfe, gAnd, gOr, gCall, gBi, gIsi, isT, isCel, gSl, gPart, ixP, pyIx, gCons, gNil, rd, rdT, truth, binop, binI, cmpop, cmpI, eqOk, dep, deps, eqP, eqPs, biF, mapO, stor, toR, toE, fin, line, noCs, noC, noLr, noL, noLs, lent, isR, noCr, ofR, callP_fnv, seqOf, intsOf, blsOf, minI, maxI, zipP, zipSeq, f67, m16, h20, h18, h1, h2, h3, hm, l2]
      · simp [run, exs, ex, ev, evs, evB, evO, evC, evI, hCons, hNil, hRet, hSet, hTset, hPar, parE, hIfe, hExpr, asg, asgs, gTup, gLst, gBin, gIx, gVar, gGlo, isCon, gNeg, gNo, gCmp, gCmp2, gIfe, gAnd, gOr, gCall, gBi, gIsi, isT, isCel, gSl, gPart, ixP, pyIx, gCons, gNil, rd, rdT, truth, binop, binI, cmpop, cmpI, eqOk, dep, deps, eqP, eqPs, biF, mapO, stor, toR, toE, fin, line, noCs, noC, noLr, noL, noLs, lent, isR, noCr, ofR, callP_fnv, seqOf, intsOf, blsOf, minI, maxI, zipP, zipSeq, f67, m16, h20, h18, h1, h2, h3, hm, l2, hRais]
    · simp [run, exs, ex, ev, evs, evB, evO, evC, evI, hCons, hNil, hRet, hSet, hTset, hPar, parE, hIfe, hExpr, asg, asgs, gTup, gLst, gBin, gIx, gVar, gGlo, isCon, gNeg, gNo, gCmp, gCmp2, gIfe, gAnd, gOr, gCall, gBi, gIsi, isT, isCel, gSl, gPart, ixP, pyIx, gCons, gNil, rd, rdT, truth, binop, binI, cmpop, cmpI, eqOk, dep, deps, eqP, eqPs, biF, mapO, stor, toR, toE, fin, line, noCs, noC, noLr, noL, noLs, lent, isR, noCr, ofR, callP_fnv, seqOf, intsOf, blsOf, minI, maxI, zipP, zipSeq, f67, m16, h20, h18, h1, h2, hm, l2, hRais]
  · simp [run, exs, ex, ev, evs, evB, evO, evC, evI, hCons, hNil, hRet, hSet, hTset, hPar, parE, hIfe, hExpr, asg, asgs, gTup, gLst, gBin, gIx, gVar, gGlo, isCon, gNeg, gNo, gCmp, gCmp2, gIfe, gAnd, gOr, gCall, gBi, gIsi, isT, isCel, gSl, gPart, ixP, pyIx, gCons, gNil, rd, rdT, truth, binop, binI, cmpop, cmpI, eqOk, dep, deps, eqP, eqPs, biF, mapO, stor, toR, toE, fin, line, noCs, noC, noLr, noL, noLs, lent, isR, noCr, ofR, callP_fnv, seqOf, intsOf, blsOf, minI, maxI, zipP, zipSeq, f67, m16, h20, h18, h1, hm, l2, hRais]
theorem m67 {d : Int × Int × Int} (h : halfO (dX x x2) (dX y y2) (dZ x y z y2 z2) = some d) : fv (n+6) 67 [t3 x y z, t3 x2 y2 z2] = some (.v (t3 d.1 d.2.1 d.2.2)) := by
  have q := t67 n x y z x2 y2 z2
  rw [h] at q
  obtain ⟨E, q⟩ := exs_of q
  rw [e _ 67 _ f67 rfl]
  show (match exs G (call G fs 5000 (n+5)) 5000 f67.body [some (.v (t3 x y z)), some (.v (t3 x2 y2 z2)), none, none, none, none, none] [] with
    | some (.next, _, S1) => some (RV.v .non, S1)
    | some (.ret v, _, S1) => fin 0 S1 v
    | _ => none).map _ = _
  rw [q]
  rfl
theorem h67 : fv (n+7) (67+far2) [t3 x y z, t3 x2 y2 z2] = some (match halfO (dX x x2) (dX y y2) (dZ x y z y2 z2) with | some d => .v (t3 d.1 d.2.1 d.2.2) | none => .own (.lst heardV)) := by
  cases h : halfO (dX x x2) (dX y y2) (dZ x y z y2 z2) with
  | some d => exact heard_some (m67 n x y z x2 y2 z2 h)
  | none =>
    have q := t67 n x y z x2 y2 z2
    rw [h] at q
    obtain ⟨E, q⟩ := exs_of q
    refine heard_none (S' := []) ?_ ?_
    · rw [call_run (F := f67) rfl]
      unfold run
      show (match exs G (call G fs 5000 (n+5)) 5000 f67.body [some (.v (t3 x y z)), some (.v (t3 x2 y2 z2)), none, none, none, none, none] [] with
        | some (.next, _, S1) => some (RV.v .non, S1)
        | some (.ret v, _, S1) => fin 0 S1 v
        | _ => none) = _
      rw [q]
    · rw [call_far (F := f67) (by decide) rfl]
      unfold runX
      show (match exs G (call G fs 5000 (n+5)) 5000 f67.body [some (.v (t3 x y z)), some (.v (t3 x2 y2 z2)), none, none, none, none, none] [] with
        | some (.exc c, _, S1) => some (RV.v (.int c), S1)
        | _ => none) = _
      rw [q]
      rfl
end
/-! ### equations: one deed against nothing -/
/-- the end of one_line: first = (a, 0, k a) -/
theorem m60e (n : Nat) (a k : Int) (rows : PV) (ha : a ≠ 0) (ba : a.natAbs < 2 ^ 63) (bk : (k * a).natAbs < 2 ^ 63) (hany : ev G (call G fs 5000 (n+2)) (.bi .any [.comp [7] (.nm 7) (.val (.var 0)) none (.bop false [.cmp .ne (.bin .mul (.ix (.var 1) (.cst (.int 0))) (.ix (.var 7) (.cst (.int 2)))) (.bin .mul (.ix (.var 1) (.cst (.int 2))) (.ix (.var 7) (.cst (.int 0)))), .cmp .ne (.bin .mul (.ix (.var 1) (.cst (.int 1))) (.ix (.var 7) (.cst (.int 2)))) (.bin .mul (.ix (.var 1) (.cst (.int 2))) (.ix (.var 7) (.cst (.int 1))))])]) [some (.v rows), some (.v (t3 a 0 (k * a))), none, none, none, none, none, none] [] = some (.v (.bl false), [])) :
    ∃ u v : PV, (noC u = true ∧ dep u = 1) ∧ (noC v = true ∧ dep v = 1) ∧ fv (n+3) 60 [rows, t3 a 0 (k * a)] = some (.v (.tup [.str [108, 105, 110, 101], u, v])) := by
  obtain ⟨p, q, h10, lin⟩ := m10 a 0 ba (by decide)
  have h10 := h10 (n+1)
  obtain ⟨g, eg⟩ : ∃ g, g = gc a 0 := ⟨_, rfl⟩
  have ega : g = ((a.natAbs : Nat) : Int) := by
    rw [eg]
    show ((Nat.gcd a.natAbs 0 : Nat) : Int) = _
    rw [Nat.gcd_zero_right]
  rw [← eg] at h10 lin
  have gp : g ≠ 0 := by omega
  have lg0 : Nat.log2 g.natAbs < 9000 := Nat.lt_trans ((Nat.log2_lt (by omega)).mpr (show g.natAbs < 2 ^ 63 by omega)) (by decide)
  have hd : (k * a).fmod g = 0 := by
    have : g ∣ k * a := by
      rw [ega]
      exact Int.dvd_trans (Int.natAbs_dvd.mpr (Int.dvd_refl a)) (Int.dvd_mul_left ..)
    exact Int.fmod_eq_zero_of_dvd this
  have bt : ((k * a).fdiv g).natAbs < 18446744073709551616 := Nat.lt_of_le_of_lt (natAbs_fdiv_le _ _) (by omega)
  obtain ⟨T, eT⟩ : ∃ T, T = (k * a).fdiv g := ⟨_, rfl⟩
  rw [← eT] at bt
  have hp := mulOkR (i := p) bt
  have hq := mulOkR (i := q) bt
  have z1 : (0 : Int).fdiv g = 0 := by simp
  have h61 : fv (n+2) 61 [.int 0, .int ((-a).fdiv g)] = some (.v (.tup [.int 0, .int 1])) := by
    rw [e _ 61 _ f61 rfl]
    by_cases c : 0 < a
    · have : (-a).fdiv g = -1 := by
        rw [show -a = -1 * g by omega]
        exact Int.mul_fdiv_cancel _ gp
      rw [this]
      simp [run, exs, ex, ev, evs, evB, evO, evC, evI, hCons, hNil, hRet, hSet, hTset, hPar, parE, hIfe, hExpr, asg, asgs, gTup, gLst, gBin, gIx, gVar, gGlo, isCon, gNeg, gNo, gCmp, gCmp2, gIfe, gAnd, gOr, gCall, gBi, gIsi, isT, isCel, gSl, gPart, ixP, pyIx, gCons, gNil, rd, rdT, truth, binop, binI, cmpop, cmpI, eqOk, dep, deps, eqP, eqPs, biF, mapO, stor, toR, toE, fin, line, noCs, noC, noLr, noL, noLs, lent, isR, noCr, ofR, callP_fnv, seqOf, intsOf, blsOf, minI, maxI, zipP, zipSeq, f61]
    · have : (-a).fdiv g = 1 := by
        rw [show -a = 1 * g by omega]
        exact Int.mul_fdiv_cancel _ gp
      rw [this]
      simp [run, exs, ex, ev, evs, evB, evO, evC, evI, hCons, hNil, hRet, hSet, hTset, hPar, parE, hIfe, hExpr, asg, asgs, gTup, gLst, gBin, gIx, gVar, gGlo, isCon, gNeg, gNo, gCmp, gCmp2, gIfe, gAnd, gOr, gCall, gBi, gIsi, isT, isCel, gSl, gPart, ixP, pyIx, gCons, gNil, rd, rdT, truth, binop, binI, cmpop, cmpI, eqOk, dep, deps, eqP, eqPs, biF, mapO, stor, toR, toE, fin, line, noCs, noC, noLr, noL, noLs, lent, isR, noCr, ofR, callP_fnv, seqOf, intsOf, blsOf, minI, maxI, zipP, zipSeq, f61]
  have h62 : ∀ u v : Int, fv (n+2) 62 [.tup [.int u, .int v], .tup [.int 0, .int 1]] = some (.v (.tup [.int (u - v.fdiv 1 * 0), .int (v - v.fdiv 1 * 1)])) := fun u v => by
    have u0 : ∀ u, mulOk u 0 = true := fun u => mulOkR (by decide)
    have u1 : ∀ u, mulOk u 1 = true := fun u => mulOkR (by decide)
    rw [e _ 62 _ f62 rfl]
    simp [run, exs, ex, ev, evs, evB, evO, evC, evI, hCons, hNil, hRet, hSet, hTset, hPar, parE, hIfe, hExpr, asg, asgs, gTup, gLst, gBin, gIx, gVar, gGlo, isCon, gNeg, gNo, gCmp, gCmp2, gIfe, gAnd, gOr, gCall, gBi, gIsi, isT, isCel, gSl, gPart, ixP, pyIx, gCons, gNil, rd, rdT, truth, binop, binI, cmpop, cmpI, eqOk, dep, deps, eqP, eqPs, biF, mapO, stor, toR, toE, fin, line, noCs, noC, noLr, noL, noLs, lent, isR, noCr, ofR, callP_fnv, seqOf, intsOf, blsOf, minI, maxI, zipP, zipSeq, f62, u0, u1, show Nat.log2 1 < 9000 by decide]
  refine ⟨.tup [.int (p * T - (q * T).fdiv 1 * 0), .int (q * T - (q * T).fdiv 1 * 1)], .tup [.int 0, .int 1], ⟨rfl, rfl⟩, ⟨rfl, rfl⟩, ?_⟩
  have hi : ∀ r, exs G (call G fs 5000 (n+2)) 5000 (f60.body.drop 1) [some (.v rows), some (.v (t3 a 0 (k * a))), none, none, none, none, none, none] [] = r → exs G (call G fs 5000 (n+2)) 5000 f60.body [some (.v rows), some (.v (t3 a 0 (k * a))), none, none, none, none, none, none] [] = r := fun r hr => if_none hany hr
  have h := hi _ rfl
  rw [e _ 60 _ f60 rfl]
  show (match exs G (call G fs 5000 (n+2)) 5000 f60.body [some (.v rows), some (.v (t3 a 0 (k * a))), none, none, none, none, none, none] [] with
    | some (.next, _, S1) => some (RV.v .non, S1)
    | some (.ret v, _, S1) => fin 0 S1 v
    | _ => none).map _ = _
  rw [h]
  simp [run, exs, ex, ev, evs, evB, evO, evC, evI, hCons, hNil, hRet, hSet, hTset, hPar, parE, hIfe, hExpr, asg, asgs, gTup, gLst, gBin, gIx, gVar, gGlo, isCon, gNeg, gNo, gCmp, gCmp2, gIfe, gAnd, gOr, gCall, gBi, gIsi, isT, isCel, gSl, gPart, ixP, pyIx, gCons, gNil, rd, rdT, truth, binop, binI, cmpop, cmpI, eqOk, dep, deps, eqP, eqPs, biF, mapO, stor, toR, toE, fin, line, noCs, noC, noLr, noL, noLs, lent, isR, noCr, ofR, callP_fnv, seqOf, intsOf, blsOf, minI, maxI, zipP, zipSeq, f60, h10, gp, lg0, hd, ← eT, hp, hq, z1, h61, h62, g5]
end A71

set_option linter.all false
set_option maxRecDepth 100000
set_option maxHeartbeats 4000000
namespace A71
open Py
theorem m55 (n : Nat) (x y z : Int) [B2 x] [B2 y] [B2 z] : fv (n+1) 55 [t3 x y z] = some (.v (.int (2 * z - x * y))) := by
  rw [e _ 55 _ f55 rfl]
  simp (decide := true) [run, exs, ex, ev, evs, evB, evO, evC, evI, hCons, hNil, hRet, hSet, hTset, hPar, parE, hIfe, hExpr, asg, asgs, gTup, gLst, gBin, gIx, gVar, gGlo, isCon, gNeg, gNo, gCmp, gCmp2, gIfe, gAnd, gOr, gCall, gBi, gIsi, isT, isCel, gSl, gPart, ixP, pyIx, gCons, gNil, rd, rdT, truth, binop, binI, cmpop, cmpI, eqOk, dep, deps, eqP, eqPs, biF, mapO, stor, toR, toE, fin, line, noCs, noC, noLr, noL, noLs, lent, isR, noCr, ofR, callP_fnv, seqOf, intsOf, blsOf, minI, maxI, zipP, zipSeq, f55, mulOk_bd]
theorem m57 (n : Nat) (x y z X Y Z : Int) [B2 x] [B2 y] [B2 z] [B2 X] [B2 Y] [B2 Z] : fv (n+2) 57 [t3 x y z, t3 0 0 0, t3 X Y Z] = some (.own (.lst [t3 x 0 X, t3 y 0 Y, t3 (2 * z - x * y) 0 (2 * Z - X * Y)])) := by
  have h1 := m55 n x y z
  have h2 : fv (n+1) 55 [t3 0 0 0] = some (.v (.int 0)) := by rfl
  have h3 := m55 n X Y Z
  rw [e _ 57 _ f57 rfl]
  simp [run, exs, ex, ev, evs, evB, evO, evC, evI, hCons, hNil, hRet, hSet, hTset, hPar, parE, hIfe, hExpr, asg, asgs, gTup, gLst, gBin, gIx, gVar, gGlo, isCon, gNeg, gNo, gCmp, gCmp2, gIfe, gAnd, gOr, gCall, gBi, gIsi, isT, isCel, gSl, gPart, ixP, pyIx, gCons, gNil, rd, rdT, truth, binop, binI, cmpop, cmpI, eqOk, dep, deps, eqP, eqPs, biF, mapO, stor, toR, toE, fin, line, noCs, noC, noLr, noL, noLs, lent, isR, noCr, ofR, callP_fnv, seqOf, intsOf, blsOf, minI, maxI, zipP, zipSeq, g0, g3, g4, augP, augOp, hTurn, hAug, f57, h1, h2, h3, gComp, gStep, gKeep, gVal, itemsOf, compL, wipe, lock, unlock]
theorem ev_compN {C : Ora} {own : List Nat} {tg : Tg} {it elt : Ex} {E : Env} {S S1 S9 : Store} {items ys : List PV} {src : EV} (h1 : evI G C it E S = some (items, src, S1)) (h2 : compL (gStep E own tg none (ev G C elt)) items (lock S1 src) = some (ys, S9)) (hl : ys.length ≤ line) : ev G C (.comp own tg it none elt) E S = some (.n (.lst ys), unlock S9 S1 src) := by
  simp only [ev, gComp, h1, evC, h2, Nat.ble_eq_true_of_le hl, if_true]
theorem ev_compC {C : Ora} {own : List Nat} {tg : Tg} {it elt c : Ex} {E : Env} {S S1 S9 : Store} {items ys : List PV} {src : EV} (h1 : evI G C it E S = some (items, src, S1)) (h2 : compL (gStep E own tg (some (ev G C c)) (ev G C elt)) items (lock S1 src) = some (ys, S9)) (hl : ys.length ≤ line) : ev G C (.comp own tg it (some c) elt) E S = some (.n (.lst ys), unlock S9 S1 src) := by
  simp only [ev, gComp, h1, evC, h2, Nat.ble_eq_true_of_le hl, if_true]
theorem ev_biN {C : Ora} {b : Bi} {a : Ex} {E : Env} {S S1 : Store} {x : PV} {z : EV} (h : ev G C a E S = some (.n x, S1)) (hz : biF b [x] = some z) : ev G C (.bi b [a]) E S = some (z, S1) := by
  simp only [ev, evs, gBi, gCons, gNil, h, mapO, rd, hz]
section
variable (n : Nat) (k : Int)
abbrev rw3 (k a : Int) : PV := t3 a 0 (k * a)
/-- the rows of one deed and nothing, by their first numbers -/
theorem m60 (as : List Int) (a : Int) (ha : a ≠ 0) (ba : a.natAbs < 2 ^ 63) (bk : (k * a).natAbs < 2 ^ 63) (hb : ∀ b ∈ as, b.natAbs < 2 ^ 63 ∧ (k * b).natAbs < 2 ^ 63) (hl : as.length ≤ 3) : ∃ u v : PV, (noC u = true ∧ dep u = 1) ∧ (noC v = true ∧ dep v = 1) ∧ fv (n+3) 60 [.lst (as.map (rw3 k)), rw3 k a] = some (.v (.tup [.str [108, 105, 110, 101], u, v])) := by
  refine m60e n a k (.lst (as.map (rw3 k))) ha ba bk ?_
  have hc : ∀ a b : Int, a * (k * b) = k * a * b := fun a b => by rw [Int.mul_left_comm, Int.mul_assoc]
  have u0 : ∀ u, mulOk u 0 = true := fun u => mulOkR (by decide)
  have v0 : ∀ u, mulOk 0 u = true := fun u => mulOkL (by decide)
  have st : ∀ (S : Store) (b : Int), b ∈ as → gStep [some (.v (.lst (as.map (rw3 k)))), some (.v (rw3 k a)), none, none, none, none, none, none] [7] (.nm 7) none (ev G (call G fs 5000 (n+2)) (.bop false [.cmp .ne (.bin .mul (.ix (.var 1) (.cst (.int 0))) (.ix (.var 7) (.cst (.int 2)))) (.bin .mul (.ix (.var 1) (.cst (.int 2))) (.ix (.var 7) (.cst (.int 0)))), .cmp .ne (.bin .mul (.ix (.var 1) (.cst (.int 1))) (.ix (.var 7) (.cst (.int 2)))) (.bin .mul (.ix (.var 1) (.cst (.int 2))) (.ix (.var 7) (.cst (.int 1))))])) (rw3 k b) S = some (some (.bl false), S) := fun S b hbm => by
    have h1 := mulOkL (j := k * b) (show a.natAbs < 18446744073709551616 by omega)
    have h2 := mulOkL (j := b) (show (k * a).natAbs < 18446744073709551616 by omega)
    have h3 := hc a b
    simp [run, exs, ex, ev, evs, evB, evO, evC, evI, hCons, hNil, hRet, hSet, hTset, hPar, parE, hIfe, hExpr, asg, asgs, gTup, gLst, gBin, gIx, gVar, gGlo, isCon, gNeg, gNo, gCmp, gCmp2, gIfe, gAnd, gOr, gCall, gBi, gIsi, isT, isCel, gSl, gPart, ixP, pyIx, gCons, gNil, rd, rdT, truth, binop, binI, cmpop, cmpI, eqOk, dep, deps, eqP, eqPs, biF, mapO, stor, toR, toE, fin, line, noCs, noC, noLr, noL, noLs, lent, isR, noCr, ofR, callP_fnv, seqOf, intsOf, blsOf, minI, maxI, zipP, zipSeq, g0, g3, g4, augP, augOp, hTurn, hAug, gStep, gKeep, wipe, u0, v0, h1, h2, h3]
  have cl : ∀ (bs : List Int), (∀ b ∈ bs, b ∈ as) → ∀ S, compL (gStep [some (.v (.lst (as.map (rw3 k)))), some (.v (rw3 k a)), none, none, none, none, none, none] [7] (.nm 7) none (ev G (call G fs 5000 (n+2)) (.bop false [.cmp .ne (.bin .mul (.ix (.var 1) (.cst (.int 0))) (.ix (.var 7) (.cst (.int 2)))) (.bin .mul (.ix (.var 1) (.cst (.int 2))) (.ix (.var 7) (.cst (.int 0)))), .cmp .ne (.bin .mul (.ix (.var 1) (.cst (.int 1))) (.ix (.var 7) (.cst (.int 2)))) (.bin .mul (.ix (.var 1) (.cst (.int 2))) (.ix (.var 7) (.cst (.int 1))))]))) (bs.map (rw3 k)) S = some (bs.map fun _ => .bl false, S) := fun bs => by
    induction bs with
    | nil => intro _ S; rfl
    | cons b bs ih =>
      intro hm S
      rw [List.map_cons, compL, st S b (hm b (List.mem_cons_self ..))]
      simp only
      rw [ih (fun c hc => hm c (List.mem_cons_of_mem _ hc)) S]
      rfl
  have bl : ∀ bs : List Int, blsOf (bs.map fun _ => PV.bl false) = some (bs.map fun _ => false) := fun bs => by
    induction bs with
    | nil => rfl
    | cons b bs ih => rw [List.map_cons, blsOf, ih]; rfl
  have an : (as.map fun _ => false).any id = false := by
    rw [List.any_map]
    simp
  have len : (as.map fun _ => PV.bl false).length ≤ 16777216 := by rw [List.length_map]; omega
  refine ev_biN (x := .lst (as.map fun _ => .bl false)) (ev_compN (items := as.map (rw3 k)) (src := .v (.lst (as.map (rw3 k)))) (S1 := []) (S9 := []) rfl (cl as (fun _ h => h) []) len) ?_
  simp only [biF, bl, Option.map_some, an]
theorem f58_cons : f58.body = .set 0 (.comp [2] (.nm 2) (.val (.var 0)) (some (.cmp .ne (.var 2) (.tup [.cst (.int 0), .cst (.int 0), .cst (.int 0)]))) (.var 2)) :: f58.body.drop 1 := rfl
/-- the rows that are not nothing -/
theorem r58 (C : Ora) (as : List Int) (E1 : Env) (hE : E1 = [some (.v (.lst (as.map (rw3 k)))), none, none, none]) : ∀ bs : List Int, compL (gStep E1 [2] (.nm 2) (some (ev G C (.cmp .ne (.var 2) (.tup [.cst (.int 0), .cst (.int 0), .cst (.int 0)])))) (ev G C (.var 2))) (bs.map (rw3 k)) [] = some ((bs.filter fun a => !decide (a = 0)).map (rw3 k), [])
  | [] => rfl
  | b :: bs => by
    have ih := r58 C as E1 hE bs
    have st : gStep E1 [2] (.nm 2) (some (ev G C (.cmp .ne (.var 2) (.tup [.cst (.int 0), .cst (.int 0), .cst (.int 0)])))) (ev G C (.var 2)) (rw3 k b) [] = some (if b = 0 then none else some (rw3 k b), []) := by
      subst hE
      by_cases h : b = 0
      · subst h
        simp [run, exs, ex, ev, evs, evB, evO, evC, evI, hCons, hNil, hRet, hSet, hTset, hPar, parE, hIfe, hExpr, asg, asgs, gTup, gLst, gBin, gIx, gVar, gGlo, isCon, gNeg, gNo, gCmp, gCmp2, gIfe, gAnd, gOr, gCall, gBi, gIsi, isT, isCel, gSl, gPart, ixP, pyIx, gCons, gNil, rd, rdT, truth, binop, binI, cmpop, cmpI, eqOk, dep, deps, eqP, eqPs, biF, mapO, stor, toR, toE, fin, line, noCs, noC, noLr, noL, noLs, lent, isR, noCr, ofR, callP_fnv, seqOf, intsOf, blsOf, minI, maxI, zipP, zipSeq, g0, g3, g4, augP, augOp, hTurn, hAug, gStep, gKeep, wipe]
      · simp [run, exs, ex, ev, evs, evB, evO, evC, evI, hCons, hNil, hRet, hSet, hTset, hPar, parE, hIfe, hExpr, asg, asgs, gTup, gLst, gBin, gIx, gVar, gGlo, isCon, gNeg, gNo, gCmp, gCmp2, gIfe, gAnd, gOr, gCall, gBi, gIsi, isT, isCel, gSl, gPart, ixP, pyIx, gCons, gNil, rd, rdT, truth, binop, binI, cmpop, cmpI, eqOk, dep, deps, eqP, eqPs, biF, mapO, stor, toR, toE, fin, line, noCs, noC, noLr, noL, noLs, lent, isR, noCr, ofR, callP_fnv, seqOf, intsOf, blsOf, minI, maxI, zipP, zipSeq, g0, g3, g4, augP, augOp, hTurn, hAug, gStep, gKeep, wipe, h]
    rw [List.map_cons, compL, st]
    simp only
    rw [ih]
    by_cases h : b = 0
    · simp [h]
    · simp [h]
theorem a58 (a b c : Int) (ha : a ≠ 0) (hb : b ≠ 0) (hc : c ≠ 0) {u v : PV} (cu : noC u = true) (cv : noC v = true)
    (lu : True) : ((fv (n+3) 60 [.lst [rw3 k a], rw3 k a] = some (.v (.tup [.str [108, 105, 110, 101], u, v]))) → (exs G (call G fs 5000 (n+3)) 5000 (f58.body.drop 1) [some (.v (.lst [rw3 k a])), none, none, none] []).map (fun q => (q.1, q.2.2)) = some (.ret (.v (.tup [.str [108, 105, 110, 101], u, v])), [])) ∧
    ((fv (n+3) 60 [.lst [rw3 k a, rw3 k b], rw3 k a] = some (.v (.tup [.str [108, 105, 110, 101], u, v]))) → (exs G (call G fs 5000 (n+3)) 5000 (f58.body.drop 1) [some (.v (.lst [rw3 k a, rw3 k b])), none, none, none] []).map (fun q => (q.1, q.2.2)) = some (.ret (.v (.tup [.str [108, 105, 110, 101], u, v])), [])) ∧
    ((fv (n+3) 60 [.lst [rw3 k a, rw3 k b, rw3 k c], rw3 k a] = some (.v (.tup [.str [108, 105, 110, 101], u, v]))) → (exs G (call G fs 5000 (n+3)) 5000 (f58.body.drop 1) [some (.v (.lst [rw3 k a, rw3 k b, rw3 k c])), none, none, none] []).map (fun q => (q.1, q.2.2)) = some (.ret (.v (.tup [.str [108, 105, 110, 101], u, v])), [])) := by
  have u0 : ∀ u, mulOk u 0 = true := fun u => mulOkR (by decide)
  have v0 : ∀ u, mulOk 0 u = true := fun u => mulOkL (by decide)
  refine ⟨fun h => ?_, fun h => ?_, fun h => ?_⟩
  · simp [run, exs, ex, ev, evs, evB, evO, evC, evI, hCons, hNil, hRet, hSet, hTset, hPar, parE, hIfe, hExpr, asg, asgs, gTup, gLst, gBin, gIx, gVar, gGlo, isCon, gNeg, gNo, gCmp, gCmp2, gIfe, gAnd, gOr, gCall, gBi, gIsi, isT, isCel, gSl, gPart, ixP, pyIx, gCons, gNil, rd, rdT, truth, binop, binI, cmpop, cmpI, eqOk, dep, deps, eqP, eqPs, biF, mapO, stor, toR, toE, fin, line, noCs, noC, noLr, noL, noLs, lent, isR, noCr, ofR, callP_fnv, seqOf, intsOf, blsOf, minI, maxI, zipP, zipSeq, g0, g3, g4, augP, augOp, hTurn, hAug, f58, h, ha, hb, hc, u0, v0, cu, cv, gComp, gStep, gKeep, gVal, itemsOf, compL, wipe, lock, unlock, slP, sIx, cut, hFor, forL]
  · simp [run, exs, ex, ev, evs, evB, evO, evC, evI, hCons, hNil, hRet, hSet, hTset, hPar, parE, hIfe, hExpr, asg, asgs, gTup, gLst, gBin, gIx, gVar, gGlo, isCon, gNeg, gNo, gCmp, gCmp2, gIfe, gAnd, gOr, gCall, gBi, gIsi, isT, isCel, gSl, gPart, ixP, pyIx, gCons, gNil, rd, rdT, truth, binop, binI, cmpop, cmpI, eqOk, dep, deps, eqP, eqPs, biF, mapO, stor, toR, toE, fin, line, noCs, noC, noLr, noL, noLs, lent, isR, noCr, ofR, callP_fnv, seqOf, intsOf, blsOf, minI, maxI, zipP, zipSeq, g0, g3, g4, augP, augOp, hTurn, hAug, f58, h, ha, hb, hc, u0, v0, cu, cv, gComp, gStep, gKeep, gVal, itemsOf, compL, wipe, lock, unlock, slP, sIx, cut, hFor, forL]
  · simp [run, exs, ex, ev, evs, evB, evO, evC, evI, hCons, hNil, hRet, hSet, hTset, hPar, parE, hIfe, hExpr, asg, asgs, gTup, gLst, gBin, gIx, gVar, gGlo, isCon, gNeg, gNo, gCmp, gCmp2, gIfe, gAnd, gOr, gCall, gBi, gIsi, isT, isCel, gSl, gPart, ixP, pyIx, gCons, gNil, rd, rdT, truth, binop, binI, cmpop, cmpI, eqOk, dep, deps, eqP, eqPs, biF, mapO, stor, toR, toE, fin, line, noCs, noC, noLr, noL, noLs, lent, isR, noCr, ofR, callP_fnv, seqOf, intsOf, blsOf, minI, maxI, zipP, zipSeq, g0, g3, g4, augP, augOp, hTurn, hAug, f58, h, ha, hb, hc, u0, v0, cu, cv, gComp, gStep, gKeep, gVal, itemsOf, compL, wipe, lock, unlock, slP, sIx, cut, hFor, forL]
theorem run1 {i : Nat} {F : Fn} {x : PV} {v : PV} {N : Nat} (hF : fs[i]? = some F) (hp : F.np = 1) {b : List Stm} (hb : F.body = b) {E : Env} (hE : E = some (.v x) :: List.replicate (F.nn - 1) none) (h : (exs G (call G fs 5000 N) 5000 b E []).map (fun q => (q.1, q.2.2)) = some (.ret (.v v), [])) : fv (N+1) i [x] = some (.v v) := by
  obtain ⟨E', q⟩ := exs_of h
  subst hb hE
  rw [e _ i _ F hF]
  unfold run
  rw [show Nat.beq ((List.map EV.v [x]).length) F.np = true by rw [hp]; rfl, if_pos rfl]
  rw [show (List.map (fun v => some (toE v)) (List.map EV.v [x]) ++ List.replicate (F.nn - F.np) none) = some (.v x) :: List.replicate (F.nn - 1) none by rw [hp]; rfl, q]
  rfl
theorem m58 (x y t : Int) (bx : x.natAbs < 2 ^ 63 ∧ (k * x).natAbs < 2 ^ 63) (bY : y.natAbs < 2 ^ 63 ∧ (k * y).natAbs < 2 ^ 63) (bt : t.natAbs < 2 ^ 63 ∧ (k * t).natAbs < 2 ^ 63) :
    (x = 0 ∧ y = 0 ∧ t = 0 ∧ fv (n+4) 58 [.lst [rw3 k x, rw3 k y, rw3 k t]] = some (.v (.tup [.str [97, 108, 108]]))) ∨ ∃ u v : PV, (noC u = true ∧ dep u = 1) ∧ (noC v = true ∧ dep v = 1) ∧ ¬ (x = 0 ∧ y = 0 ∧ t = 0) ∧ fv (n+4) 58 [.lst [rw3 k x, rw3 k y, rw3 k t]] = some (.v (.tup [.str [108, 105, 110, 101], u, v])) := by
  have c := r58 k (call G fs 5000 (n+3)) [x, y, t] _ rfl [x, y, t]
  have first : ∀ as : List Int, ([x, y, t].filter fun a => !decide (a = 0)) = as → ∀ r, (exs G (call G fs 5000 (n+3)) 5000 (f58.body.drop 1) [some (.v (.lst (as.map (rw3 k)))), none, none, none] []).map (fun q => (q.1, q.2.2)) = r → (exs G (call G fs 5000 (n+3)) 5000 f58.body [some (.v (.lst ([x, y, t].map (rw3 k)))), none, none, none] []).map (fun q => (q.1, q.2.2)) = r := fun as ha r hr => by
    rw [ha] at c
    rw [f58_cons]
    have la : as.length ≤ 3 := by rw [← ha]; exact List.length_filter_le ..
    have h1 : ev G (call G fs 5000 (n+3)) (.comp [2] (.nm 2) (.val (.var 0)) (some (.cmp .ne (.var 2) (.tup [.cst (.int 0), .cst (.int 0), .cst (.int 0)]))) (.var 2)) [some (.v (.lst ([x, y, t].map (rw3 k)))), none, none, none] [] = some (.n (.lst (as.map (rw3 k))), []) :=
      ev_compC (items := [x, y, t].map (rw3 k)) (src := .v (.lst ([x, y, t].map (rw3 k)))) (S1 := []) (S9 := []) rfl c (by rw [List.length_map]; exact Nat.le_trans la (by decide))
    have h2 : ex G (call G fs 5000 (n+3)) 5000 (.set 0 (.comp [2] (.nm 2) (.val (.var 0)) (some (.cmp .ne (.var 2) (.tup [.cst (.int 0), .cst (.int 0), .cst (.int 0)]))) (.var 2))) [some (.v (.lst ([x, y, t].map (rw3 k)))), none, none, none] [] = some (.next, [some (.v (.lst (as.map (rw3 k)))), none, none, none], []) := by
      have : hSet 0 (fun E => ev G (call G fs 5000 (n+3)) (.comp [2] (.nm 2) (.val (.var 0)) (some (.cmp .ne (.var 2) (.tup [.cst (.int 0), .cst (.int 0), .cst (.int 0)]))) (.var 2)) E) [some (.v (.lst ([x, y, t].map (rw3 k)))), none, none, none] [] = some (.next, [some (.v (.lst (as.map (rw3 k)))), none, none, none], []) := by
        unfold hSet
        simp only [h1, toE]
        rfl
      rw [← this, ex]
    rw [exs_next h2 rfl]
    exact hr
  have mem : ∀ a ∈ ([x, y, t].filter fun a => !decide (a = 0)), a ≠ 0 ∧ a.natAbs < 2 ^ 63 ∧ (k * a).natAbs < 2 ^ 63 := fun a ha => by
    obtain ⟨h1, h2⟩ := List.mem_filter.mp ha
    refine ⟨by simpa using h2, ?_⟩
    simp at h1
    rcases h1 with rfl | rfl | rfl
    · exact bx
    · exact bY
    · exact bt
  have lf : ([x, y, t].filter fun a => !decide (a = 0)).length ≤ 3 := List.length_filter_le ..
  have all0 : ([x, y, t].filter fun a => !decide (a = 0)) ≠ [] → ¬ (x = 0 ∧ y = 0 ∧ t = 0) := fun q ⟨a, b, c⟩ => q (by rw [a, b, c]; rfl)
  cases q : ([x, y, t].filter fun a => !decide (a = 0)) with
  | nil =>
    have h0 : ∀ a ∈ [x, y, t], a = 0 := fun a ha => by
      have := List.filter_eq_nil_iff.mp q a ha
      simpa using this
    refine .inl ⟨h0 x (by simp), h0 y (by simp), h0 t (by simp), run1 (F := f58) rfl rfl rfl rfl (first [] q _ ?_)⟩
    simp [run, exs, ex, ev, evs, evB, evO, evC, evI, hCons, hNil, hRet, hSet, hTset, hPar, parE, hIfe, hExpr, asg, asgs, gTup, gLst, gBin, gIx, gVar, gGlo, isCon, gNeg, gNo, gCmp, gCmp2, gIfe, gAnd, gOr, gCall, gBi, gIsi, isT, isCel, gSl, gPart, ixP, pyIx, gCons, gNil, rd, rdT, truth, binop, binI, cmpop, cmpI, eqOk, dep, deps, eqP, eqPs, biF, mapO, stor, toR, toE, fin, line, noCs, noC, noLr, noL, noLs, lent, isR, noCr, ofR, callP_fnv, seqOf, intsOf, blsOf, minI, maxI, zipP, zipSeq, g0, g3, g4, augP, augOp, hTurn, hAug, f58, g4]
  | cons a r1 =>
    rw [q] at mem lf all0
    have nz := all0 (by simp)
    have hm := mem a (by simp)
    cases r1 with
    | nil =>
      obtain ⟨u, v, cu, cv, h60⟩ := m60 n k [a] a hm.1 hm.2.1 hm.2.2 (fun b hb => (mem b (by simpa using hb)).2) (by simp)
      exact .inr ⟨u, v, cu, cv, nz, run1 (F := f58) rfl rfl rfl rfl (first [a] q _ ((a58 n k a a a hm.1 hm.1 hm.1 cu.1 cv.1 trivial).1 h60))⟩
    | cons b r2 =>
      have hb := mem b (by simp)
      cases r2 with
      | nil =>
        obtain ⟨u, v, cu, cv, h60⟩ := m60 n k [a, b] a hm.1 hm.2.1 hm.2.2 (fun b hb => (mem b hb).2) (by simp)
        exact .inr ⟨u, v, cu, cv, nz, run1 (F := f58) rfl rfl rfl rfl (first [a, b] q _ ((a58 n k a b a hm.1 hb.1 hm.1 cu.1 cv.1 trivial).2.1 h60))⟩
      | cons c r3 =>
        have hc := mem c (by simp)
        cases r3 with
        | nil =>
          obtain ⟨u, v, cu, cv, h60⟩ := m60 n k [a, b, c] a hm.1 hm.2.1 hm.2.2 (fun b hb => (mem b hb).2) (by simp)
          exact .inr ⟨u, v, cu, cv, nz, run1 (F := f58) rfl rfl rfl rfl (first [a, b, c] q _ ((a58 n k a b c hm.1 hb.1 hc.1 cu.1 cv.1 trivial).2.2 h60))⟩
        | cons _ _ => simp at lf
end
theorem m63 (n : Nat) (k x y z X Y Z : Int) [B2 x] [B2 y] [B2 z] [B2 X] [B2 Y] [B2 Z] (eX : X = k * x) (eY : Y = k * y) (eZ : 2 * Z - X * Y = k * (2 * z - x * y)) (bx : x.natAbs < 2 ^ 63 ∧ X.natAbs < 2 ^ 63) (bY : y.natAbs < 2 ^ 63 ∧ Y.natAbs < 2 ^ 63) (bt : (2 * z - x * y).natAbs < 2 ^ 63 ∧ (2 * Z - X * Y).natAbs < 2 ^ 63) :
    (x = 0 ∧ y = 0 ∧ z = 0 ∧ fv (n+6) 63 [t3 x y z, t3 0 0 0, t3 X Y Z] = some (.v (.tup [.str [97, 108, 108]]))) ∨ ∃ u v : PV, (noC u = true ∧ dep u = 1) ∧ (noC v = true ∧ dep v = 1) ∧ ¬ (x = 0 ∧ y = 0 ∧ z = 0) ∧ fv (n+6) 63 [t3 x y z, t3 0 0 0, t3 X Y Z] = some (.v (.tup [.str [108, 105, 110, 101], u, v])) := by
  have h24 := m24 (n+4) x y z 0 0 0
  have h24b := m24 (n+3) x y z X Y Z
  have h24c := m24 (n+3) 0 0 0 X Y Z
  have h57 := m57 (n+3) x y z X Y Z
  have ec : x * Y - y * X = 0 := by
    rw [eX, eY, Int.mul_left_comm, Int.mul_left_comm y, Int.mul_comm y]
    omega
  rw [ec] at h24b
  simp only [Int.mul_zero, Int.zero_mul, Int.sub_self] at h24 h24c
  have h64 : fv (n+5) 64 [t3 x y z, t3 0 0 0, t3 X Y Z] = some (.v (.bl true)) := by
    rw [e _ 64 _ f64 rfl]
    simp [run, exs, ex, ev, evs, evB, evO, evC, evI, hCons, hNil, hRet, hSet, hTset, hPar, parE, hIfe, hExpr, asg, asgs, gTup, gLst, gBin, gIx, gVar, gGlo, isCon, gNeg, gNo, gCmp, gCmp2, gIfe, gAnd, gOr, gCall, gBi, gIsi, isT, isCel, gSl, gPart, ixP, pyIx, gCons, gNil, rd, rdT, truth, binop, binI, cmpop, cmpI, eqOk, dep, deps, eqP, eqPs, biF, mapO, stor, toR, toE, fin, line, noCs, noC, noLr, noL, noLs, lent, isR, noCr, ofR, callP_fnv, seqOf, intsOf, blsOf, minI, maxI, zipP, zipSeq, f64, h24b, h24c]
  have rows : t3 x 0 X = rw3 k x ∧ t3 y 0 Y = rw3 k y ∧ t3 (2 * z - x * y) 0 (2 * Z - X * Y) = rw3 k (2 * z - x * y) := ⟨by rw [eX], by rw [eY], by rw [eZ]⟩
  rw [rows.1, rows.2.1, rows.2.2] at h57
  have h58 := m58 (n+1) k x y (2 * z - x * y) (by rw [← eX]; exact bx) (by rw [← eY]; exact bY) (by rw [← eZ]; exact bt)
  obtain ⟨L, eL⟩ : ∃ L, L = PV.lst [rw3 k x, rw3 k y, rw3 k (2 * z - x * y)] := ⟨_, rfl⟩
  have hL : noC L = true := by rw [eL]; rfl
  rw [← eL] at h57 h58
  clear eL
  have last : ∀ R, noC R = true → fv (n+5) 58 [L] = some (.v R) → fv (n+6) 63 [t3 x y z, t3 0 0 0, t3 X Y Z] = some (.v R) := fun R hR h => by
    rw [e _ 63 _ f63 rfl]
    by_cases c : x = 0 ∧ y = 0
    · have c1 := c.1
      have c2 := c.2
      subst c1 c2
      simp [run, exs, ex, ev, evs, evB, evO, evC, evI, hCons, hNil, hRet, hSet, hTset, hPar, parE, hIfe, hExpr, asg, asgs, gTup, gLst, gBin, gIx, gVar, gGlo, isCon, gNeg, gNo, gCmp, gCmp2, gIfe, gAnd, gOr, gCall, gBi, gIsi, isT, isCel, gSl, gPart, ixP, pyIx, gCons, gNil, rd, rdT, truth, binop, binI, cmpop, cmpI, eqOk, dep, deps, eqP, eqPs, biF, mapO, stor, toR, toE, fin, line, noCs, noC, noLr, noL, noLs, lent, isR, noCr, ofR, callP_fnv, seqOf, intsOf, blsOf, minI, maxI, zipP, zipSeq, f63, m16, h24, h64, h57, h, hR, hL, slP, sIx, cut]
    · have c3 : (!decide (x = 0) || !decide (y = 0)) = true := by
        by_cases p : x = 0
        · have : ¬ y = 0 := fun q => c ⟨p, q⟩
          simp [this]
        · simp [p]
      have c2 : (decide (x = 0) && decide (y = 0)) = false := by simpa using fun a b => c ⟨a, b⟩
      simp [run, exs, ex, ev, evs, evB, evO, evC, evI, hCons, hNil, hRet, hSet, hTset, hPar, parE, hIfe, hExpr, asg, asgs, gTup, gLst, gBin, gIx, gVar, gGlo, isCon, gNeg, gNo, gCmp, gCmp2, gIfe, gAnd, gOr, gCall, gBi, gIsi, isT, isCel, gSl, gPart, ixP, pyIx, gCons, gNil, rd, rdT, truth, binop, binI, cmpop, cmpI, eqOk, dep, deps, eqP, eqPs, biF, mapO, stor, toR, toE, fin, line, noCs, noC, noLr, noL, noLs, lent, isR, noCr, ofR, callP_fnv, seqOf, intsOf, blsOf, minI, maxI, zipP, zipSeq, f63, m16, h24, h64, h57, h, hR, hL, slP, sIx, cut, c2, c3]
  rcases h58 with ⟨h1, h2, h3, h4⟩ | ⟨u, v, cu, cv, nz, h4⟩
  · subst h1 h2
    exact .inl ⟨rfl, rfl, by omega, last _ rfl h4⟩
  · refine .inr ⟨u, v, cu, cv, fun ⟨a, b, c⟩ => nz ⟨a, b, by rw [a, b, c]; rfl⟩, last _ ?_ h4⟩
    simp [noC, noCs, cu.1, cv.1]
theorem m65 (n : Nat) (D1 D2 D3 : PV) (c1 : noC D1 = true) (c2 : noC D2 = true) (c3 : noC D3 = true) {u v : PV} (cu : noC u = true ∧ dep u = 1) (cv : noC v = true ∧ dep v = 1) (h : fv (n+6) 63 [D1, D2, D3] = some (.v (.tup [.str [108, 105, 110, 101], u, v]))) : fv (n+7) 65 [D1, D2, D3] = some (.v (.bl true)) := by
  rw [e _ 65 _ f65 rfl]
  simp [run, exs, ex, ev, evs, evB, evO, evC, evI, hCons, hNil, hRet, hSet, hTset, hPar, parE, hIfe, hExpr, asg, asgs, gTup, gLst, gBin, gIx, gVar, gGlo, isCon, gNeg, gNo, gCmp, gCmp2, gIfe, gAnd, gOr, gCall, gBi, gIsi, isT, isCel, gSl, gPart, ixP, pyIx, gCons, gNil, rd, rdT, truth, binop, binI, cmpop, cmpI, eqOk, dep, deps, eqP, eqPs, biF, mapO, stor, toR, toE, fin, line, noCs, noC, noLr, noL, noLs, lent, isR, noCr, ofR, callP_fnv, seqOf, intsOf, blsOf, minI, maxI, zipP, zipSeq, f65, h, c1, c2, c3, cu.1, cv.1, cu.2, cv.2, g2]
end A71

set_option linter.all false
set_option maxRecDepth 100000
set_option maxHeartbeats 4000000
namespace A71
/-! ### deeds done often: plain sums -/
abbrev D := Int × Int × Int
def Tri (k : Int) : Int := (k * (k - 1)).fdiv 2
theorem T2 (k : Int) : 2 * Tri k = k * (k - 1) := by
  unfold Tri
  have h := Int.mul_fdiv_add_fmod (k * (k - 1)) 2
  have h2 : (k * (k - 1)).fmod 2 = 0 := by
    rw [Int.fmod_eq_emod_of_nonneg _ (by decide)]
    rcases Int.emod_two_eq k with q | q
    · rw [Int.mul_emod, q]; simp
    · rw [Int.mul_emod, Int.sub_emod, q]; simp
  omega
def tms (d : D) (k : Int) : D := (k * d.1, k * d.2.1, k * d.2.2 + Tri k * d.1 * d.2.1)
def rt (d : D) (k : Int) : Option D := rootO d.1 d.2.1 d.2.2 k
theorem fmod_mul (k x : Int) : (k * x).fmod k = 0 := Int.fmod_eq_zero_of_dvd (Int.dvd_mul_right ..)
theorem fdiv_mul (k x : Int) (h : k ≠ 0) : (k * x).fdiv k = x := by rw [Int.mul_comm]; exact Int.mul_fdiv_cancel _ h
/-- the root of what is done often -/
theorem rt_tms (d : D) (k : Int) (h : k ≠ 0) : rt (tms d k) k = some d := by
  unfold rt rootO tms
  simp only
  have e : k * d.2.2 + Tri k * d.1 * d.2.1 - (k * (k - 1)).fdiv 2 * (k * d.1).fdiv k * (k * d.2.1).fdiv k = k * d.2.2 := by
    rw [fdiv_mul k _ h, fdiv_mul k _ h]
    show _ - Tri k * d.1 * d.2.1 = _
    omega
  rw [e, fmod_mul, fmod_mul, fmod_mul, fdiv_mul k _ h, fdiv_mul k _ h, fdiv_mul k _ h]
  simp
theorem rt_some {d b : D} {k : Int} (h : rt d k = some b) (hk : k ≠ 0) : tms b k = d := by
  unfold rt rootO at h
  split at h
  · rename_i c
    obtain ⟨c1, c2, c3⟩ := c
    cases h
    have e1 := Int.mul_fdiv_add_fmod d.1 k
    have e2 := Int.mul_fdiv_add_fmod d.2.1 k
    have e3 := Int.mul_fdiv_add_fmod (d.2.2 - (k * (k - 1)).fdiv 2 * d.1.fdiv k * d.2.1.fdiv k) k
    rw [c1] at e1
    rw [c2] at e2
    rw [c3] at e3
    unfold tms Tri
    obtain ⟨x, y, z⟩ := d
    simp only at *
    refine Prod.ext (by simp only; omega) (Prod.ext (by simp only; omega) (by simp only; omega))
  · cases h
theorem tms_tms (d : D) (m k : Int) : tms (tms d m) k = tms d (m * k) := by
  unfold tms
  have h1 := T2 m
  have h2 := T2 k
  have h3 := T2 (m * k)
  refine Prod.ext (by simp only; grind) (Prod.ext (by simp only; grind) ?_)
  simp only
  have : 2 * (k * (m * d.2.2 + Tri m * d.1 * d.2.1) + Tri k * (m * d.1) * (m * d.2.1)) = 2 * (m * k * d.2.2 + Tri (m * k) * d.1 * d.2.1) := by grind
  omega
theorem tms_one (d : D) : tms d 1 = d := by
  unfold tms
  have : Tri 1 = 0 := rfl
  rw [this]
  obtain ⟨x, y, z⟩ := d
  simp
def und (d : D) : D := (-d.1, -d.2.1, d.1 * d.2.1 - d.2.2)
theorem und_tms (d : D) (k : Int) : und (tms d k) = tms d (-k) := by
  unfold und tms
  have h1 := T2 k
  have h2 := T2 (-k)
  refine Prod.ext (by simp only; grind) (Prod.ext (by simp only; grind) ?_)
  simp only
  have : 2 * (k * d.1 * (k * d.2.1) - (k * d.2.2 + Tri k * d.1 * d.2.1)) = 2 * (-k * d.2.2 + Tri (-k) * d.1 * d.2.1) := by grind
  omega
theorem tms_und (d : D) (k : Int) : tms (und d) k = und (tms d k) := by
  unfold und tms
  have h1 := T2 k
  refine Prod.ext (by simp only; grind) (Prod.ext (by simp only; grind) ?_)
  simp only
  have : 2 * (k * (d.1 * d.2.1 - d.2.2) + Tri k * -d.1 * -d.2.1) = 2 * (k * d.1 * (k * d.2.1) - (k * d.2.2 + Tri k * d.1 * d.2.1)) := by grind
  omega
def led (d d2 : D) : D := (d.1, d.2.1, d.2.2 + (d2.1 * d.2.1 - d2.2.1 * d.1))
theorem led_tms (d d2 : D) (k : Int) : led (tms d k) d2 = tms (led d d2) k := by
  unfold led tms
  refine Prod.ext (by simp only) (Prod.ext (by simp only) ?_)
  simp only
  grind
/-! ### the greatest root -/
def mst (d : D) : Int := mostI d.1 d.2.1 d.2.2
theorem gc_dvd_l (x y : Int) : gc x y ∣ x := Int.gcd_dvd_left ..
theorem gc_dvd_r (x y : Int) : gc x y ∣ y := Int.gcd_dvd_right ..
theorem gc_mul (k x y : Int) (h : 0 ≤ k) : gc (k * x) (k * y) = k * gc x y := by
  show ((Nat.gcd (k * x).natAbs (k * y).natAbs : Nat) : Int) = k * ((Nat.gcd x.natAbs y.natAbs : Nat) : Int)
  rw [Int.natAbs_mul, Int.natAbs_mul, Nat.gcd_mul_left, Int.natCast_mul]
  congr 1
  omega
/-- parity of the tilt -/
theorem even_tilt {g u v z : Int} (h : (u * v).fmod 2 = 0) : ∃ s, 2 * z - g * u * (g * v) = 2 * s := by
  have e := Int.mul_fdiv_add_fmod (u * v) 2
  rw [h] at e
  refine ⟨z - g * g * (u * v).fdiv 2, ?_⟩
  have : g * u * (g * v) = g * g * (u * v) := by grind
  rw [this, ← e]
  grind
theorem odd_tilt {g u v z : Int} (h : ¬ (u * v).fmod 2 = 0) : ∃ s, 2 * z - g * u * (g * v) - g = 2 * s := by
  have e := Int.mul_fdiv_add_fmod (u * v) 2
  have n1 := Int.fmod_nonneg_of_pos (u * v) (show (0 : Int) < 2 by decide)
  have n2 := Int.fmod_lt_of_pos (u * v) (show (0 : Int) < 2 by decide)
  have h1 : (u * v).fmod 2 = 1 := by omega
  rw [h1] at e
  have hg := T2 g
  refine ⟨z - g * g * (u * v).fdiv 2 - Tri g - g, ?_⟩
  have e1 : g * u * (g * v) = g * g * (u * v) := by grind
  rw [e1, ← e]
  grind
theorem fdiv2 (s : Int) : (2 * s).fdiv 2 = s := fdiv_mul 2 s (by decide)
theorem mst_tms (d : D) (k : Int) (hk : 1 ≤ k) : mst (tms d k) = k * mst d := by
  obtain ⟨x, y, z⟩ := d
  unfold mst tms mostI
  simp only
  have hT := T2 k
  by_cases c : x = 0 ∧ y = 0
  · obtain ⟨c1, c2⟩ := c
    subst c1 c2
    simp only [Int.mul_zero, and_self, if_true, Int.add_zero]
    rw [Int.natAbs_mul, Int.natCast_mul]
    congr 1
    omega
  · have c' : ¬ (k * x = 0 ∧ k * y = 0) := fun ⟨a, b⟩ => c ⟨by
      rcases Int.mul_eq_zero.mp a with q | q
      · omega
      · exact q, by
      rcases Int.mul_eq_zero.mp b with q | q
      · omega
      · exact q⟩
    rw [if_neg c, if_neg c', gc_mul k x y (by omega)]
    have gp := gc_pos c
    obtain ⟨g, eg⟩ : ∃ g, g = gc x y := ⟨_, rfl⟩
    obtain ⟨u, hu⟩ := gc_dvd_l x y
    obtain ⟨v, hv⟩ := gc_dvd_r x y
    rw [← eg] at gp hu hv ⊢
    have kg : k * g ≠ 0 := fun q => by
      rcases Int.mul_eq_zero.mp q with q | q <;> omega
    have e1 : x.fdiv g = u := by rw [hu]; exact fdiv_mul g u (by omega)
    have e2 : y.fdiv g = v := by rw [hv]; exact fdiv_mul g v (by omega)
    have e3 : (k * x).fdiv (k * g) = u := by rw [hu, ← Int.mul_assoc]; exact fdiv_mul _ u kg
    have e4 : (k * y).fdiv (k * g) = v := by rw [hv, ← Int.mul_assoc]; exact fdiv_mul _ v kg
    have e5 : 2 * (k * z + Tri k * x * y) - k * x * (k * y) = k * (2 * z - x * y) := by grind
    rw [e1, e2, e3, e4, e5]
    by_cases p : (u * v).fmod 2 = 0
    · rw [if_pos p, if_pos p]
      obtain ⟨s, hs⟩ := even_tilt (g := g) (z := z) p
      rw [← hu, ← hv] at hs
      rw [hs, fdiv2, Int.mul_left_comm, fdiv2, gc_mul k _ _ (by omega)]
    · rw [if_neg p, if_neg p]
      obtain ⟨s, hs⟩ := odd_tilt (g := g) (z := z) p
      rw [← hu, ← hv] at hs
      rw [hs, fdiv2, ← Int.mul_sub, hs, Int.mul_left_comm, fdiv2, gc_mul k _ _ (by omega)]
theorem odd_alg {m a b q z Tm Ta : Int} (hT : 2 * Tm = m * (m - 1)) (hA : 2 * Ta = a * (a - 1)) (hs : 2 * z - m * m * (a * a) * (2 * q + 1) - m * a = 2 * (m * b)) : 2 * (m * (b + a * a * q + Ta + a) + Tm * (a * a) * (2 * q + 1)) = 2 * z := by
  grind
/-- there is such a root -/
theorem rt_mst (d : D) (h : d ≠ (0, 0, 0)) : ∃ b, rt d (mst d) = some b := by
  obtain ⟨x, y, z⟩ := d
  have hn : ¬ (x = 0 ∧ y = 0 ∧ z = 0) := fun ⟨a, b, c⟩ => h (by rw [a, b, c])
  suffices hs : ∃ b : D, tms b (mst (x, y, z)) = (x, y, z) by
    obtain ⟨b, hb⟩ := hs
    refine ⟨b, ?_⟩
    have hp : 0 < mst (x, y, z) := by
      unfold mst mostI
      simp only
      by_cases c : x = 0 ∧ y = 0
      · rw [if_pos c]
        have : z ≠ 0 := fun q => hn ⟨c.1, c.2, q⟩
        omega
      · rw [if_neg c]
        have gp := gc_pos c
        split
        · exact gc_pos fun q => by omega
        · exact gc_pos fun q => by omega
    have := rt_tms b (mst (x, y, z)) (by omega)
    rw [hb] at this
    exact this
  unfold mst mostI
  simp only
  by_cases c : x = 0 ∧ y = 0
  · rw [if_pos c]
    obtain ⟨c1, c2⟩ := c
    subst c1 c2
    by_cases hz : 0 ≤ z
    · refine ⟨(0, 0, 1), ?_⟩
      unfold tms
      simp only [Int.mul_zero, Int.mul_one, Int.add_zero]
      rw [show ((z.natAbs : Nat) : Int) = z by omega]
    · refine ⟨(0, 0, -1), ?_⟩
      unfold tms
      simp only [Int.mul_zero, Int.add_zero]
      rw [show ((z.natAbs : Nat) : Int) = -z by omega]
      simp
  · rw [if_neg c]
    have gp := gc_pos c
    obtain ⟨g, eg⟩ : ∃ g, g = gc x y := ⟨_, rfl⟩
    obtain ⟨u, hu⟩ := gc_dvd_l x y
    obtain ⟨v, hv⟩ := gc_dvd_r x y
    rw [← eg] at gp hu hv ⊢
    have e1 : x.fdiv g = u := by rw [hu]; exact fdiv_mul g u (by omega)
    have e2 : y.fdiv g = v := by rw [hv]; exact fdiv_mul g v (by omega)
    rw [e1, e2]
    by_cases p : (u * v).fmod 2 = 0
    · rw [if_pos p]
      obtain ⟨s, hs⟩ := even_tilt (g := g) (z := z) p
      rw [← hu, ← hv] at hs
      rw [hs, fdiv2]
      obtain ⟨m, em⟩ : ∃ m, m = gc g s := ⟨_, rfl⟩
      obtain ⟨a, ha⟩ := gc_dvd_l g s
      obtain ⟨b, hb⟩ := gc_dvd_r g s
      rw [← em] at ha hb ⊢
      have hT := T2 m
      have e := Int.mul_fdiv_add_fmod (u * v) 2
      rw [p] at e
      obtain ⟨q, eq⟩ : ∃ q, q = (u * v).fdiv 2 := ⟨_, rfl⟩
      rw [← eq] at e
      refine ⟨(a * u, a * v, b + a * a * q), ?_⟩
      unfold tms
      refine Prod.ext (show m * (a * u) = x by rw [hu, ha, Int.mul_assoc]) (Prod.ext (show m * (a * v) = y by rw [hv, ha, Int.mul_assoc]) ?_)
      simp only
      have : 2 * (m * (b + a * a * q) + Tri m * (a * u) * (a * v)) = 2 * z := by
        have k1 : Tri m * (a * u) * (a * v) = Tri m * (a * a) * (u * v) := by grind
        rw [k1, ← e]
        grind
      omega
    · rw [if_neg p]
      obtain ⟨s, hs⟩ := odd_tilt (g := g) (z := z) p
      rw [← hu, ← hv] at hs
      rw [hs, fdiv2]
      obtain ⟨m, em⟩ : ∃ m, m = gc g s := ⟨_, rfl⟩
      obtain ⟨a, ha⟩ := gc_dvd_l g s
      obtain ⟨b, hb⟩ := gc_dvd_r g s
      rw [← em] at ha hb ⊢
      have hT := T2 m
      have hA := T2 a
      have e := Int.mul_fdiv_add_fmod (u * v) 2
      have n1 := Int.fmod_nonneg_of_pos (u * v) (show (0 : Int) < 2 by decide)
      have n2 := Int.fmod_lt_of_pos (u * v) (show (0 : Int) < 2 by decide)
      have h1 : (u * v).fmod 2 = 1 := by omega
      rw [h1] at e
      obtain ⟨q, eq⟩ : ∃ q, q = (u * v).fdiv 2 := ⟨_, rfl⟩
      rw [← eq] at e
      refine ⟨(a * u, a * v, b + a * a * q + Tri a + a), ?_⟩
      unfold tms
      refine Prod.ext (show m * (a * u) = x by rw [hu, ha, Int.mul_assoc]) (Prod.ext (show m * (a * v) = y by rw [hv, ha, Int.mul_assoc]) ?_)
      simp only
      have : 2 * (m * (b + a * a * q + Tri a + a) + Tri m * (a * u) * (a * v)) = 2 * z := by
        have k1 : Tri m * (a * u) * (a * v) = Tri m * (a * a) * (u * v) := by grind
        rw [k1, ← e]
        refine odd_alg hT hA ?_
        have k2 : x * y = m * m * (a * a) * (u * v) := by
          rw [hu, hv, ha]
          simp only [Int.mul_assoc, Int.mul_comm, Int.mul_left_comm]
        rw [e, ← k2, ← ha, ← hb]
        exact hs
      omega
end A71

set_option linter.all false
set_option maxRecDepth 100000
set_option maxHeartbeats 4000000
namespace A71
def tmO (d d2 : D) : Option Int := timesO d.1 d.2.1 d.2.2 d2.1 d2.2.1 d2.2.2
theorem chk_tms (d : D) (n : Int) : chkT d.1 d.2.1 d.2.2 (tms d n).1 (tms d n).2.1 (tms d n).2.2 n = some n := by
  unfold chkT
  rw [if_pos ⟨rfl, rfl, rfl⟩]
theorem tmO_tms (d : D) (n : Int) (h : d ≠ (0, 0, 0)) : tmO d (tms d n) = some n := by
  have hc := chk_tms d n
  unfold tmO timesO
  by_cases h1 : d.1 = 0
  · rw [if_neg (fun q => q h1)]
    by_cases h2 : d.2.1 = 0
    · rw [if_neg (fun q => q h2)]
      have h3 : d.2.2 ≠ 0 := fun q => h (Prod.ext h1 (Prod.ext h2 q))
      rw [if_pos h3]
      have : (tms d n).2.2.fdiv d.2.2 = n := by
        unfold tms
        simp only [h1, h2, Int.mul_zero, Int.add_zero]
        exact Int.mul_fdiv_cancel _ h3
      rw [this]
      exact hc
    · rw [if_pos h2]
      have : (tms d n).2.1.fdiv d.2.1 = n := Int.mul_fdiv_cancel _ h2
      rw [this]
      exact hc
  · rw [if_pos h1]
    have : (tms d n).1.fdiv d.1 = n := Int.mul_fdiv_cancel _ h1
    rw [this]
    exact hc
/-- what is done some times commutes -/
theorem tmO_comm {d d2 : D} {n : Int} (h : tmO d d2 = some n) : d.1 * d2.2.1 - d.2.1 * d2.1 = 0 := by
  have ch : ∀ m, chkT d.1 d.2.1 d.2.2 d2.1 d2.2.1 d2.2.2 m = some n → d.1 * d2.2.1 - d.2.1 * d2.1 = 0 := fun m q => by
    unfold chkT at q
    split at q
    · rename_i c
      rw [← c.1, ← c.2.1, Int.mul_left_comm, Int.mul_left_comm d.2.1, Int.mul_comm d.2.1]
      omega
    · cases q
  unfold tmO timesO at h
  by_cases h1 : d.1 = 0
  · rw [if_neg (fun q => q h1)] at h
    by_cases h2 : d.2.1 = 0
    · rw [h1, h2]; omega
    · rw [if_pos h2] at h
      exact ch _ h
  · rw [if_pos h1] at h
    exact ch _ h
/-- the root by which the greatest power goes -/
theorem base_ok (d : D) (h : d ≠ (0, 0, 0)) : ∃ b : D, 0 < mst d ∧ rt d (mst d) = some b ∧ tms b (mst d) = d ∧ mst b = 1 ∧ rt b 1 = some b ∧ b ≠ (0, 0, 0) := by
  obtain ⟨b, hb⟩ := rt_mst d h
  have hn : ¬ (d.1 = 0 ∧ d.2.1 = 0 ∧ d.2.2 = 0) := fun ⟨p, q, r⟩ => h (Prod.ext p (Prod.ext q r))
  have hp : 0 < mst d := by
    unfold mst mostI
    by_cases c : d.1 = 0 ∧ d.2.1 = 0
    · rw [if_pos c]
      have : d.2.2 ≠ 0 := fun q => hn ⟨c.1, c.2, q⟩
      omega
    · rw [if_neg c]
      have gp := gc_pos c
      split
      · exact gc_pos fun q => by omega
      · exact gc_pos fun q => by omega
  have ht := rt_some hb (by omega)
  have hm := mst_tms b (mst d) (by omega)
  rw [ht] at hm
  have h1 : mst b = 1 := by
    have : mst d * 1 = mst d * mst b := by omega
    exact (Int.eq_of_mul_eq_mul_left (by omega) this).symm
  refine ⟨b, hp, hb, ht, h1, ?_, fun q => ?_⟩
  · have := rt_tms b 1 (by decide)
    rw [tms_one] at this
    exact this
  · rw [q] at h1
    exact absurd h1 (by decide)
/-- .. of a power -/
theorem base_pow (d b : D) (k : Int) (hk : 1 ≤ k) (hp : 0 < mst d) (ht : tms b (mst d) = d) : mst (tms d k) = k * mst d ∧ rt (tms d k) (k * mst d) = some b ∧ tms b (k * mst d) = tms d k := by
  have e : tms b (k * mst d) = tms d k := by
    rw [Int.mul_comm, ← tms_tms, ht]
  refine ⟨mst_tms d k hk, ?_, e⟩
  rw [← e]
  refine rt_tms b _ fun q => ?_
  rcases Int.mul_eq_zero.mp q with q | q <;> omega
/-! ### kin -/
def kin (d d2 : D) : Bool := kinB d.1 d.2.1 d.2.2 d2.1 d2.2.1 d2.2.2
theorem fmod_dvd {g a : Int} (h : g ∣ a) : a.fmod g = 0 := Int.fmod_eq_zero_of_dvd h
theorem gc_cross (x y P Q : Int) : gc x y ∣ P * y - Q * x := by
  obtain ⟨u, hu⟩ := gc_dvd_l x y
  obtain ⟨v, hv⟩ := gc_dvd_r x y
  refine ⟨P * v - Q * u, ?_⟩
  generalize gc x y = g at *
  subst hu hv
  grind
theorem kin_led (d d2 : D) : kin d (led d d2) = true := by
  unfold kin kinB led
  simp only [and_self, decide_true, Bool.true_and]
  have e : d.2.2 + (d2.1 * d.2.1 - d2.2.1 * d.1) - d.2.2 = d2.1 * d.2.1 - d2.2.1 * d.1 := by omega
  rw [e]
  have h := gc_cross d.1 d.2.1 d2.1 d2.2.1
  by_cases c : gc d.1 d.2.1 = 0
  · rw [if_pos c]
    rw [c] at h
    simpa using h
  · rw [if_neg c]
    simpa using fmod_dvd h
def lst (d : D) : D := (d.1, d.2.1, if d.1 = 0 ∧ d.2.1 = 0 then d.2.2 else d.2.2.fmod (gc d.1 d.2.1))
theorem fmod_add_mul (a g q : Int) (hg : 0 < g) : (a + g * q).fmod g = a.fmod g := by
  rw [Int.fmod_eq_emod_of_nonneg _ (by omega), Int.fmod_eq_emod_of_nonneg _ (by omega), Int.add_mul_emod_self_left]
theorem lst_led (d d2 : D) : lst (led d d2) = lst d := by
  unfold lst led
  simp only
  refine Prod.ext rfl (Prod.ext rfl ?_)
  simp only
  by_cases c : d.1 = 0 ∧ d.2.1 = 0
  · rw [if_pos c, if_pos c, c.1, c.2]
    simp
  · rw [if_neg c, if_neg c]
    obtain ⟨q, hq⟩ := gc_cross d.1 d.2.1 d2.1 d2.2.1
    rw [hq, fmod_add_mul _ _ _ (gc_pos c)]
theorem kin_lst (d : D) : kin (lst d) d = true := by
  unfold kin kinB lst
  simp only [and_self, decide_true, Bool.true_and]
  by_cases c : d.1 = 0 ∧ d.2.1 = 0
  · rw [if_pos c]
    have : gc d.1 d.2.1 = 0 := by rw [c.1, c.2]; rfl
    rw [if_pos this]
    simp
  · rw [if_neg c]
    have gp := gc_pos c
    rw [if_neg (by omega)]
    have h := Int.mul_fdiv_add_fmod d.2.2 (gc d.1 d.2.1)
    have e : d.2.2 - d.2.2.fmod (gc d.1 d.2.1) = gc d.1 d.2.1 * d.2.2.fdiv (gc d.1 d.2.1) := by omega
    rw [e]
    simpa using fmod_mul _ _
theorem fmod_neg0 (a g : Int) : ((-a).fmod g = 0) ↔ (a.fmod g = 0) := by
  constructor
  · intro h
    have := Int.dvd_of_fmod_eq_zero h
    exact fmod_dvd (Int.dvd_neg.mp this)
  · intro h
    have := Int.dvd_of_fmod_eq_zero h
    exact fmod_dvd (Int.dvd_neg.mpr this)
theorem kin_symm (d d2 : D) : kin d d2 = kin d2 d := by
  unfold kin kinB
  have e : d.2.2 - d2.2.2 = -(d2.2.2 - d.2.2) := by omega
  by_cases c : d.1 = d2.1 ∧ d.2.1 = d2.2.1
  · obtain ⟨c1, c2⟩ := c
    have z : (d2.2.2 - d.2.2 = 0) ↔ (-(d2.2.2 - d.2.2) = 0) := by omega
    simp only [c1, c2, and_self, decide_true, Bool.true_and, e, z, fmod_neg0]
  · have c' : ¬ (d2.1 = d.1 ∧ d2.2.1 = d.2.1) := fun q => c ⟨q.1.symm, q.2.symm⟩
    simp only [decide_eq_false c, decide_eq_false c', Bool.false_and]
/-! ### half ways -/
def half (d : D) : Option D := halfO d.1 d.2.1 d.2.2
theorem half_rt (d : D) : (half d).isSome = (rt d 2).isSome := by
  unfold half halfO rt rootO
  have : ((2 : Int) * (2 - 1)).fdiv 2 = 1 := by decide
  rw [this, Int.one_mul]
theorem half_tms (d : D) : half (tms d 2) = some d := by
  have h := rt_tms d 2 (by decide)
  unfold half halfO
  unfold rt rootO at h
  have : ((2 : Int) * (2 - 1)).fdiv 2 = 1 := by decide
  rw [this, Int.one_mul] at h
  exact h
end A71

set_option linter.all false
set_option maxRecDepth 100000
set_option maxHeartbeats 4000000
namespace A71
open Py
/-! ### the law's own greatest divisor -/
def gBody (C : Ora) : RS := exs G C 5000 [.ife (.cmp .eq (.var 1) (.cst (.int 0))) [.brk] [], .par [0, 1] [.var 1, .bin .mod (.bi .int [.var 0]) (.var 1)]]
theorem g_stop (C : Ora) (a : Nat) (o : Option EV) (x : PV) : hTurn (.nm 2) (gBody C) x [some (.v (.int a)), some (.v (.int ((0 : Nat) : Int))), o] [] = some (.brk, [some (.v (.int a)), some (.v (.int ((0 : Nat) : Int))), some (toR x)], []) := by
  have : gBody C [some (.v (.int a)), some (.v (.int ((0 : Nat) : Int))), some (Py.toR x)] [] = some (.brk, [some (.v (.int a)), some (.v (.int ((0 : Nat) : Int))), some (Py.toR x)], []) := by
    simp [run, exs, ex, ev, evs, evB, evO, evC, evI, hCons, hNil, hRet, hSet, hTset, hPar, parE, hIfe, hExpr, asg, asgs, gTup, gLst, gBin, gIx, gVar, gGlo, isCon, gNeg, gNo, gCmp, gCmp2, gIfe, gAnd, gOr, gCall, gBi, gIsi, isT, isCel, gSl, gPart, ixP, pyIx, gCons, gNil, rd, rdT, truth, binop, binI, cmpop, cmpI, eqOk, dep, deps, eqP, eqPs, biF, mapO, stor, toR, toE, fin, line, noCs, noC, noLr, noL, noLs, lent, isR, noCr, ofR, callP_fnv, seqOf, intsOf, blsOf, minI, maxI, zipP, zipSeq, gBody]
  exact this
theorem g_go (C : Ora) (a b : Nat) (h : 0 < b) (o : Option EV) (x : PV) : hTurn (.nm 2) (gBody C) x [some (.v (.int a)), some (.v (.int b)), o] [] = some (.next, [some (.v (.int b)), some (.v (.int ((a % b : Nat) : Int))), some (toR x)], []) := by
  have e : (a : Int).fmod (b : Int) = ((a % b : Nat) : Int) := by
    rw [Int.fmod_eq_emod_of_nonneg _ (by omega)]
    rfl
  have h2 : ¬ b = 0 := by omega
  have : gBody C [some (.v (.int a)), some (.v (.int b)), some (Py.toR x)] [] = some (.next, [some (.v (.int b)), some (.v (.int ((a % b : Nat) : Int))), some (Py.toR x)], []) := by
    simp [run, exs, ex, ev, evs, evB, evO, evC, evI, hCons, hNil, hRet, hSet, hTset, hPar, parE, hIfe, hExpr, asg, asgs, gTup, gLst, gBin, gIx, gVar, gGlo, isCon, gNeg, gNo, gCmp, gCmp2, gIfe, gAnd, gOr, gCall, gBi, gIsi, isT, isCel, gSl, gPart, ixP, pyIx, gCons, gNil, rd, rdT, truth, binop, binI, cmpop, cmpI, eqOk, dep, deps, eqP, eqPs, biF, mapO, stor, toR, toE, fin, line, noCs, noC, noLr, noL, noLs, lent, isR, noCr, ofR, callP_fnv, seqOf, intsOf, blsOf, minI, maxI, zipP, zipSeq, gBody, e, h2]
  exact this
theorem g_loop (C : Ora) : ∀ (k a b c : Nat) (lo : Int) (o : Option EV), b < 2 ^ k → 2 * k + 1 ≤ c → ∃ o', forL (hTurn (.nm 2) (gBody C)) (rangeL lo c) [some (.v (.int a)), some (.v (.int b)), o] [] = some (.next, [some (.v (.int ((Nat.gcd a b : Nat) : Int))), some (.v (.int ((0 : Nat) : Int))), o'], []) := by
  intro k
  have stop : ∀ (a c : Nat) (lo : Int) (o : Option EV), 1 ≤ c → ∃ o', forL (hTurn (.nm 2) (gBody C)) (rangeL lo c) [some (.v (.int a)), some (.v (.int ((0 : Nat) : Int))), o] [] = some (.next, [some (.v (.int a)), some (.v (.int ((0 : Nat) : Int))), o'], []) := fun a c lo o hc => by
    obtain ⟨m, rfl⟩ : ∃ m, c = m + 1 := ⟨c - 1, by omega⟩
    refine ⟨some (toR (.int lo)), ?_⟩
    rw [rangeL, forL, g_stop]
  have go : ∀ (a b c : Nat) (lo : Int) (o : Option EV), 0 < b → forL (hTurn (.nm 2) (gBody C)) (rangeL lo (c + 1)) [some (.v (.int a)), some (.v (.int b)), o] [] = forL (hTurn (.nm 2) (gBody C)) (rangeL (lo + 1) c) [some (.v (.int b)), some (.v (.int ((a % b : Nat) : Int))), some (toR (.int lo))] [] := fun a b c lo o h => by
    rw [rangeL, forL, g_go C a b h]
  induction k with
  | zero =>
    intro a b c lo o hb hn
    have : b = 0 := by omega
    subst this
    rw [Nat.gcd_zero_right]
    exact stop _ _ _ _ (by omega)
  | succ k ih =>
    intro a b c lo o hb hn
    by_cases h0 : b = 0
    · subst h0
      rw [Nat.gcd_zero_right]
      exact stop _ _ _ _ (by omega)
    · obtain ⟨m, rfl⟩ : ∃ m, c = m + 2 := ⟨c - 2, by omega⟩
      rw [go _ _ _ _ _ (by omega), ← gcd_step]
      by_cases h1 : a % b = 0
      · rw [h1, Nat.gcd_zero_right]
        exact stop _ _ _ _ (by omega)
      · rw [go _ _ _ _ _ (by omega), ← gcd_step b (a % b)]
        have lt := Nat.mod_lt a (show 0 < b by omega)
        have : b % (a % b) < 2 ^ k := by
          have h3 := Nat.mod_lt b (show 0 < a % b by omega)
          have h4 := Nat.div_add_mod b (a % b)
          have h5 : 1 ≤ b / (a % b) := Nat.div_pos (by omega) (by omega)
          have h6 : a % b * 1 ≤ a % b * (b / (a % b)) := Nat.mul_le_mul_left _ h5
          rw [Nat.pow_succ] at hb
          omega
        exact ih _ _ _ _ _ this (by omega)
theorem m78 (n : Nat) (x y : Int) [B2 y] : fv (n+1) 78 [.int x, .int y] = some (.v (.int (gc x y))) := by
  obtain ⟨o', h⟩ := g_loop (call G fs 5000 n) 200 x.natAbs y.natAbs 10000 0 none (B2.h (i := y)) (by decide)
  obtain ⟨L, eL⟩ : ∃ L, L = rangeL 0 10000 := ⟨_, rfl⟩
  rw [← eL] at h
  have p : ex G (call G fs 5000 n) 5000 (.par [0, 1] [.bi .abs [.var 0], .bi .abs [.var 1]]) [some (.v (.int x)), some (.v (.int y)), none] [] = some (.next, [some (.v (.int ((x.natAbs : Nat) : Int))), some (.v (.int ((y.natAbs : Nat) : Int))), none], []) := by
    have a1 := ab x
    have a2 := ab y
    simp [run, exs, ex, ev, evs, evB, evO, evC, evI, hCons, hNil, hRet, hSet, hTset, hPar, parE, hIfe, hExpr, asg, asgs, gTup, gLst, gBin, gIx, gVar, gGlo, isCon, gNeg, gNo, gCmp, gCmp2, gIfe, gAnd, gOr, gCall, gBi, gIsi, isT, isCel, gSl, gPart, ixP, pyIx, gCons, gNil, rd, rdT, truth, binop, binI, cmpop, cmpI, eqOk, dep, deps, eqP, eqPs, biF, mapO, stor, toR, toE, fin, line, noCs, noC, noLr, noL, noLs, lent, isR, noCr, ofR, callP_fnv, seqOf, intsOf, blsOf, minI, maxI, zipP, zipSeq, a1, a2]
  have hr : evI G (call G fs 5000 n) (.rng [.cst (.int 10000)]) [some (.v (.int ((x.natAbs : Nat) : Int))), some (.v (.int ((y.natAbs : Nat) : Int))), none] [] = some (L, .v .non, []) := by
    rw [eL]
    simp [evI, gRng, evs, gCons, gNil, ev, mapO, stor, rngP]
  clear eL
  have q : ex G (call G fs 5000 n) 5000 (.forr (.nm 2) (.rng [.cst (.int 10000)]) [.ife (.cmp .eq (.var 1) (.cst (.int 0))) [.brk] [], .par [0, 1] [.var 1, .bin .mod (.bi .int [.var 0]) (.var 1)]]) [some (.v (.int ((x.natAbs : Nat) : Int))), some (.v (.int ((y.natAbs : Nat) : Int))), none] [] = some (.next, [some (.v (.int (gc x y))), some (.v (.int ((0 : Nat) : Int))), o'], []) := by
    simp only [ex]
    unfold hFor
    rw [hr]
    simp only [lock]
    rw [show forL (hTurn (.nm 2) (exs G (call G fs 5000 n) 5000 [.ife (.cmp .eq (.var 1) (.cst (.int 0))) [.brk] [], .par [0, 1] [.var 1, .bin .mod (.bi .int [.var 0]) (.var 1)]])) L [some (.v (.int ((x.natAbs : Nat) : Int))), some (.v (.int ((y.natAbs : Nat) : Int))), none] [] = _ from h]
    rfl
  rw [e _ 78 _ f78 rfl]
  show (match exs G (call G fs 5000 n) 5000 f78.body [some (.v (.int x)), some (.v (.int y)), none] [] with
    | some (.next, _, S1) => some (RV.v .non, S1)
    | some (.ret v, _, S1) => fin 0 S1 v
    | _ => none).map _ = _
  rw [show exs G (call G fs 5000 n) 5000 f78.body [some (.v (.int x)), some (.v (.int y)), none] [] = some (.ret (.v (.int (gc x y))), [some (.v (.int (gc x y))), some (.v (.int ((0 : Nat) : Int))), o'], []) from exs_next p (exs_next q rfl)]
  rfl
/-! ### steps of the law -/
section
variable {n : Nat} {E : Env} {S : Store}
abbrev CC (n : Nat) : Ora := call G fs 5000 (n + 20)
abbrev Ev (n : Nat) (a : Ex) (E : Env) (S : Store) (x : PV) : Prop := ev G (CC n) a E S = some (.v x, S)
abbrev tr (d : D) : PV := t3 d.1 d.2.1 d.2.2
theorem ev_v {i : Nat} {x : PV} (h : E[i]? = some (some (.v x))) : Ev n (.var i) E S x := by
  show ev G _ _ _ _ = _
  simp only [ev, gVar, h]
theorem ev_c {x : PV} : Ev n (.cst x) E S x := rfl
theorem c1 {f : Nat} {a : Ex} {x y : PV} (hf : fv (n + 20) f [x] = some (.v y)) (hx : noC x = true) (hy : noC y = true) (h : Ev n a E S x) : Ev n (.call f [a]) E S y := by
  have h : ev G (CC n) a E S = some (.v x, S) := h
  show ev G _ _ _ _ = _
  simp only [ev, evs, gCall, gCons, gNil, h, callP_fnv, mapO, rd, noCs, hx, Bool.and_self, hf, lent, noCr, hy, List.any_cons, List.any_nil, isR, Bool.or_false, Bool.not_false, Bool.true_or, if_true, ofR]
theorem c2 {f : Nat} {a b : Ex} {x x2 y : PV} (hf : fv (n + 20) f [x, x2] = some (.v y)) (hx : noC x = true) (hx2 : noC x2 = true) (hy : noC y = true) (h : Ev n a E S x) (h2 : Ev n b E S x2) : Ev n (.call f [a, b]) E S y := by
  have h : ev G (CC n) a E S = some (.v x, S) := h
  have h2 : ev G (CC n) b E S = some (.v x2, S) := h2
  show ev G _ _ _ _ = _
  simp only [ev, evs, gCall, gCons, gNil, h, h2, callP_fnv, mapO, rd, noCs, hx, hx2, Bool.and_self, hf, lent, noCr, hy, List.any_cons, List.any_nil, isR, Bool.or_false, Bool.not_false, Bool.true_or, if_true, ofR]
theorem c3 {f : Nat} {a b c : Ex} {x x2 x3 y : PV} (hf : fv (n + 20) f [x, x2, x3] = some (.v y)) (hx : noC x = true) (hx2 : noC x2 = true) (hx3 : noC x3 = true) (hy : noC y = true) (h : Ev n a E S x) (h2 : Ev n b E S x2) (h3 : Ev n c E S x3) : Ev n (.call f [a, b, c]) E S y := by
  have h : ev G (CC n) a E S = some (.v x, S) := h
  have h2 : ev G (CC n) b E S = some (.v x2, S) := h2
  have h3 : ev G (CC n) c E S = some (.v x3, S) := h3
  show ev G _ _ _ _ = _
  simp only [ev, evs, gCall, gCons, gNil, h, h2, h3, callP_fnv, mapO, rd, noCs, hx, hx2, hx3, Bool.and_self, hf, lent, noCr, hy, List.any_cons, List.any_nil, isR, Bool.or_false, Bool.not_false, Bool.true_or, if_true, ofR]
/-- a call with a row that nobody else holds -/
theorem c1o {f : Nat} {a : Ex} {x y : PV} (hf : fv (n + 20) f [x] = some (.own y)) (hx : noC x = true) (hy : noC y = true) (h : Ev n a E S x) : ev G (CC n) (.call f [a]) E S = some (.n y, S) := by
  have h : ev G (CC n) a E S = some (.v x, S) := h
  simp only [ev, evs, gCall, gCons, gNil, h, callP_fnv, mapO, rd, noCs, hx, Bool.and_self, hf, lent, noCr, hy, List.any_cons, List.any_nil, isR, Bool.or_false, Bool.not_false, Bool.true_or, if_true, ofR]
def evO' (o : Option PV) : EV := match o with
  | some y => .v y
  | none => .n (.lst heardV)
theorem qb {f : Nat} {a b : Ex} : ev G (CC n) (.heard f [a, b]) E S = gCall (CC n) (f + far2) (evs G (CC n) [a, b] E) S := by rw [ev]
theorem qc {j : Nat} {a b : Ex} {x x2 y : PV} (hf : fv (n + 20) j [x, x2] = some (.v y)) (hx : noC x = true) (hx2 : noC x2 = true) (cy : noC y = true) (h : ev G (CC n) a E S = some (.v x, S)) (h2 : ev G (CC n) b E S = some (.v x2, S)) : gCall (CC n) j (evs G (CC n) [a, b] E) S = some (.v y, S) := by
  simp only [evs, gCall, gCons, gNil, h, h2, callP_fnv, mapO, rd, noCs, hx, hx2, Bool.and_self, hf, lent, noCr, cy, List.any_cons, List.any_nil, isR, Bool.or_false, Bool.not_false, Bool.true_or, if_true, ofR]
theorem qd {j : Nat} {a b : Ex} {x x2 : PV} (hf : fv (n + 20) j [x, x2] = some (.own (.lst heardV))) (hx : noC x = true) (hx2 : noC x2 = true) (h : ev G (CC n) a E S = some (.v x, S)) (h2 : ev G (CC n) b E S = some (.v x2, S)) : gCall (CC n) j (evs G (CC n) [a, b] E) S = some (.n (.lst heardV), S) := by
  have c : noC (.lst heardV) = true := rfl
  simp only [evs, gCall, gCons, gNil, h, h2, callP_fnv, mapO, rd, noCs, hx, hx2, Bool.and_self, hf, lent, noCr, c, List.any_cons, List.any_nil, isR, Bool.or_false, Bool.not_false, Bool.true_or, if_true, ofR]
theorem hL {f : Nat} {a b : Ex} {x x2 : PV} {o : Option PV} (hf : fv (n + 20) (f + far2) [x, x2] = some (match o with | some y => .v y | none => .own (.lst heardV))) (hx : noC x = true) (hx2 : noC x2 = true) (ho : ∀ y, o = some y → noC y = true) (h : Ev n a E S x) (h2 : Ev n b E S x2) : ev G (CC n) (.heard f [a, b]) E S = some (evO' o, S) := by
  have h : ev G (CC n) a E S = some (.v x, S) := h
  have h2 : ev G (CC n) b E S = some (.v x2, S) := h2
  refine Eq.trans qb ?_
  cases o with
  | none => exact qd hf hx hx2 h h2
  | some y => exact qc hf hx hx2 (ho y rfl) h h2
theorem hR (E : Env) (S : Store) : ev G (CC n) (.lst [.cst (.str [99, 97, 110, 32, 110, 111, 116]), .cst (.bl true)]) E S = some (.n (.lst heardV), S) := rfl
theorem e_cmpG {op : COp} {a b : Ex} {x y : EV} {p q : PV} {r : Bool} (h : ev G (CC n) a E S = some (x, S)) (h2 : ev G (CC n) b E S = some (y, S)) (hp : rd S x = some p) (hq : rd S y = some q) (hr : cmpop op p q = some r) : Ev n (.cmp op a b) E S (.bl r) := by
  show ev G _ _ _ _ = _
  simp only [ev, gCmp, h, h2, hp, hq, hr]
def pvH (o : Option PV) : PV := match o with
  | some y => y
  | none => .lst heardV
theorem hEq {f : Nat} {a b : Ex} {x x2 : PV} {o : Option PV} (hf : fv (n + 20) (f + far2) [x, x2] = some (match o with | some y => .v y | none => .own (.lst heardV))) (hx : noC x = true) (hx2 : noC x2 = true) (ho : ∀ y, o = some y → noC y = true ∧ Nat.ble (dep y) 60 = true ∧ eqP y (.lst heardV) = false) (h : Ev n a E S x) (h2 : Ev n b E S x2) :
    Ev n (.cmp .eq (.heard f [a, b]) (.lst [.cst (.str [99, 97, 110, 32, 110, 111, 116]), .cst (.bl true)])) E S (.bl o.isNone) := by
  refine e_cmpG (p := pvH o) (hL hf hx hx2 (fun y q => (ho y q).1) h h2) (hR E S) (by cases o <;> rfl) rfl ?_
  have dh : Nat.ble (dep (.lst heardV)) 60 = true := rfl
  cases o with
  | none => rfl
  | some y =>
    obtain ⟨cy, dy, ey⟩ := ho y rfl
    simp only [pvH, cmpop, eqOk, dy, dh, Bool.and_self, if_true, ey, Option.isNone_some]
theorem hNe {f : Nat} {a b : Ex} {x x2 : PV} {o : Option PV} (hf : fv (n + 20) (f + far2) [x, x2] = some (match o with | some y => .v y | none => .own (.lst heardV))) (hx : noC x = true) (hx2 : noC x2 = true) (ho : ∀ y, o = some y → noC y = true ∧ Nat.ble (dep y) 60 = true ∧ eqP y (.lst heardV) = false) (h : Ev n a E S x) (h2 : Ev n b E S x2) :
    Ev n (.cmp .ne (.heard f [a, b]) (.lst [.cst (.str [99, 97, 110, 32, 110, 111, 116]), .cst (.bl true)])) E S (.bl o.isSome) := by
  refine e_cmpG (p := pvH o) (hL hf hx hx2 (fun y q => (ho y q).1) h h2) (hR E S) (by cases o <;> rfl) rfl ?_
  have dh : Nat.ble (dep (.lst heardV)) 60 = true := rfl
  cases o with
  | none => rfl
  | some y =>
    obtain ⟨cy, dy, ey⟩ := ho y rfl
    simp only [pvH, cmpop, eqOk, dy, dh, Bool.and_self, if_true, ey, Option.isSome_some, Bool.not_false]
theorem c2n {f : Nat} {a b : Ex} {x x2 y : PV} (hf : fv (n + 20) f [x, x2] = some (.v y)) (hx : noC x = true) (hx2 : noC x2 = true) (hy : noC y = true) (h : ev G (CC n) a E S = some (.n x, S)) (h2 : ev G (CC n) b E S = some (.n x2, S)) : Ev n (.call f [a, b]) E S y := by
  show ev G _ _ _ _ = _
  simp only [ev, evs, gCall, gCons, gNil, h, h2, callP_fnv, mapO, rd, noCs, hx, hx2, Bool.and_self, hf, lent, noCr, hy, List.any_cons, List.any_nil, isR, Bool.or_false, Bool.not_false, Bool.true_or, if_true, ofR]
theorem e_bin {op : BOp} {a b : Ex} {x y z : PV} (h : Ev n a E S x) (h2 : Ev n b E S y) (hz : binop op x y = some (.v z)) : Ev n (.bin op a b) E S z := by
  have h : ev G (CC n) a E S = some (.v x, S) := h
  have h2 : ev G (CC n) b E S = some (.v y, S) := h2
  show ev G _ _ _ _ = _
  simp only [ev, gBin, h, h2, rd, hz]
theorem e_ne {a b : Ex} {x : PV} (h : Ev n a E S x) (h2 : Ev n b E S x) (p : pl x = true) (d : Nat.ble (dep x) 60 = true) : Ev n (.cmp .ne a b) E S (.bl false) := ne_no h h2 rfl p d
theorem e_cmp {op : COp} {a b : Ex} {x y : PV} {r : Bool} (h : Ev n a E S x) (h2 : Ev n b E S y) (hr : cmpop op x y = some r) : Ev n (.cmp op a b) E S (.bl r) := by
  have h : ev G (CC n) a E S = some (.v x, S) := h
  have h2 : ev G (CC n) b E S = some (.v y, S) := h2
  show ev G _ _ _ _ = _
  simp only [ev, gCmp, h, h2, rd, hr]
theorem e_no {a : Ex} {b : Bool} (h : Ev n a E S (.bl b)) : Ev n (.no a) E S (.bl (!b)) := by
  have h : ev G (CC n) a E S = some (.v (.bl b), S) := h
  show ev G _ _ _ _ = _
  simp only [ev, gNo, h, rdT, rd, truth]
theorem e_noT {a : Ex} (h : Ev n a E S (.bl true)) : Ev n (.no a) E S (.bl false) := e_no h
theorem e_ix {a : Ex} {x z : PV} {i : Int} (h : Ev n a E S x) (hz : ixP x (.int i) = some z) (hc : noC z = true) : Ev n (.ix a (.cst (.int i))) E S z := by
  have h : ev G (CC n) a E S = some (.v x, S) := h
  show ev G _ _ _ _ = _
  simp only [ev, gIx, h, rd, hz, toR_noC hc]
theorem e_and2 {a b : Ex} {p q : Bool} (h : Ev n a E S (.bl p)) (h2 : Ev n b E S (.bl q)) : Ev n (.bop true [a, b]) E S (.bl (p && q)) := by
  have h : ev G (CC n) a E S = some (.v (.bl p), S) := h
  have h2 : ev G (CC n) b E S = some (.v (.bl q), S) := h2
  show ev G _ _ _ _ = _
  cases p <;> simp only [ev, evB, gAnd, h, h2, rdT, rd, truth, Bool.true_and, Bool.false_and]
theorem e_and2f {a b : Ex} (h : Ev n a E S (.bl false)) : Ev n (.bop true [a, b]) E S (.bl false) := by
  have h : ev G (CC n) a E S = some (.v (.bl false), S) := h
  show ev G _ _ _ _ = _
  simp only [ev, evB, gAnd, h, rdT, rd, truth]
theorem o2 {a b : Ex} (h : Ev n a E S (.bl false)) (h2 : Ev n b E S (.bl false)) : Ev n (.bop false [a, b]) E S (.bl false) := or2 h h2
theorem o3 {a b c : Ex} (h : Ev n a E S (.bl false)) (h2 : Ev n b E S (.bl false)) (h3 : Ev n c E S (.bl false)) : Ev n (.bop false [a, b, c]) E S (.bl false) := or3 h h2 h3
theorem o4 {a b c d : Ex} (h : Ev n a E S (.bl false)) (h2 : Ev n b E S (.bl false)) (h3 : Ev n c E S (.bl false)) (h4 : Ev n d E S (.bl false)) : Ev n (.bop false [a, b, c, d]) E S (.bl false) := by
  have h : ev G (CC n) a E S = some (.v (.bl false), S) := h
  have h2 : ev G (CC n) b E S = some (.v (.bl false), S) := h2
  have h3 : ev G (CC n) c E S = some (.v (.bl false), S) := h3
  have h4 : ev G (CC n) d E S = some (.v (.bl false), S) := h4
  show ev G _ _ _ _ = _
  simp only [ev, evB, gOr, h, h2, h3, h4, rdT, rd, truth]
theorem o5 {a b c d f : Ex} (h : Ev n a E S (.bl false)) (h2 : Ev n b E S (.bl false)) (h3 : Ev n c E S (.bl false)) (h4 : Ev n d E S (.bl false)) (h5 : Ev n f E S (.bl false)) : Ev n (.bop false [a, b, c, d, f]) E S (.bl false) := by
  have h : ev G (CC n) a E S = some (.v (.bl false), S) := h
  have h2 : ev G (CC n) b E S = some (.v (.bl false), S) := h2
  have h3 : ev G (CC n) c E S = some (.v (.bl false), S) := h3
  have h4 : ev G (CC n) d E S = some (.v (.bl false), S) := h4
  have h5 : ev G (CC n) f E S = some (.v (.bl false), S) := h5
  show ev G _ _ _ _ = _
  simp only [ev, evB, gOr, h, h2, h3, h4, h5, rdT, rd, truth]
theorem ss_set {i : Nat} {a : Ex} {ss : List Stm} {x : PV} {r : Option (Fl × Env × Store)} (h : Ev n a E S x) (k : exs G (CC n) 5000 ss (E.set i (some (.v x))) S = r) : exs G (CC n) 5000 (.set i a :: ss) E S = r := by
  have h : ev G (CC n) a E S = some (.v x, S) := h
  refine exs_next ?_ k
  simp only [ex, hSet, h, toE]
theorem ss_no {a : Ex} {b ss : List Stm} {r : Option (Fl × Env × Store)} (h : Ev n a E S (.bl false)) (k : exs G (CC n) 5000 ss E S = r) : exs G (CC n) 5000 (.ife a b [] :: ss) E S = r := if_none h k
/-- a test that may hold: the body goes on -/
theorem ss_if {a : Ex} {b ss : List Stm} {t : Bool} {E' : Env} {S' : Store} {r : Option (Fl × Env × Store)} (h : Ev n a E S (.bl t)) (hb : t = true → exs G (CC n) 5000 b E S = some (.next, E', S')) (hn : t = false → E' = E ∧ S' = S) (k : exs G (CC n) 5000 ss E' S' = r) : exs G (CC n) 5000 (.ife a b [] :: ss) E S = r := by
  have h : ev G (CC n) a E S = some (.v (.bl t), S) := h
  refine exs_next ?_ k
  cases t with
  | true => simp only [ex, hIfe, h, rdT, rd, truth, hb rfl]
  | false =>
    obtain ⟨rfl, rfl⟩ := hn rfl
    simp only [ex, exs, hIfe, h, rdT, rd, truth, hNil]
def Evs (n : Nat) (es : List Ex) (E : Env) (S : Store) (xs : List PV) : Prop := evs G (CC n) es E S = some (xs.map .v, S)
theorem es0 : Evs n [] E S [] := rfl
theorem es1 {a : Ex} {es : List Ex} {x : PV} {xs : List PV} (h : Ev n a E S x) (k : Evs n es E S xs) : Evs n (a :: es) E S (x :: xs) := by
  have h : ev G (CC n) a E S = some (.v x, S) := h
  unfold Evs at *
  simp only [evs, gCons, h, k, List.map_cons]
theorem stor_v : ∀ xs : List PV, mapO stor (xs.map .v) = some xs
  | [] => rfl
  | x :: xs => by simp only [List.map_cons, mapO, stor, stor_v xs]
theorem e_lst {es : List Ex} {xs : List PV} (h : Evs n es E S xs) (hl : xs.length ≤ line) : ev G (CC n) (.lst es) E S = some (.n (.lst xs), S) := by
  unfold Evs at h
  simp only [ev, gLst, h, stor_v, Nat.ble_eq_true_of_le hl, if_true]
theorem e_tup {es : List Ex} {xs : List PV} (h : Evs n es E S xs) (hl : xs.length ≤ line) : Ev n (.tup es) E S (.tup xs) := by
  unfold Evs at h
  show ev G _ _ _ _ = _
  simp only [ev, gTup, h, stor_v, Nat.ble_eq_true_of_le hl, if_true]
/-- two rows that are the same -/
theorem e_same {a b : List Ex} {xs : List PV} (h : Evs n a E S xs) (h2 : Evs n b E S xs) (hl : xs.length ≤ line) (hp : pl (.lst xs) = true) (hs : sml (.lst xs) = true) (hd : dep (.lst xs) ≤ 8) : Ev n (.no (.call 77 [.lst a, .lst b])) E S (.bl false) := by
  have l1 := e_lst h hl
  have l2 := e_lst h2 hl
  have hc := pl_noC _ hp
  have hf : fv (n + 20) 77 [.lst xs, .lst xs] = some (.v (.bl true)) := by
    unfold fv fnv
    rw [show List.map EV.v [PV.lst xs, .lst xs] = [.v (.lst xs), .v (.lst xs)] from rfl, same_ok (G := G) (T := fs) (w := 5000) (i := 77) rfl 8 (.lst xs) hp hs hd (Nat.le_trans hd (by decide)) (n + 19) (by omega)]
    rfl
  exact e_noT (c2n hf hc hc rfl l1 l2)
end
end A71

set_option linter.all false
set_option maxRecDepth 100000
set_option maxHeartbeats 4000000
namespace A71
open Py
class C3 (d : D) : Prop where
  a : B2 d.1
  b : B2 d.2.1
  c : B2 d.2.2
instance C3.a' {d : D} [h : C3 d] : B2 d.1 := h.a
instance C3.b' {d : D} [h : C3 d] : B2 d.2.1 := h.b
instance C3.c' {d : D} [h : C3 d] : B2 d.2.2 := h.c
def jn (d d2 : D) : D := (d.1 + d2.1, d.2.1 + d2.2.1, d.2.2 + d2.2.2 + d.1 * d2.2.1)
def crs (d d2 : D) : Int := d.1 * d2.2.1 - d.2.1 * d2.1
section
variable {n : Nat} {E : Env} {S : Store} {a b : Ex} {d d2 : D} {k : Int} [C3 d] [C3 d2] [B2 k]
theorem k80 (h : Ev n a E S (tr d)) (h2 : Ev n b E S (.int k)) : Ev n (.call 80 [a, b]) E S (tr (tms d k)) := c2 (m80 (n+19) d.1 d.2.1 d.2.2 k) rfl rfl rfl h h2
theorem k23 (h : Ev n a E S (tr d)) (h2 : Ev n b E S (.int k)) : Ev n (.call 23 [a, b]) E S (tr (tms d k)) := c2 (m23 (n+14) d.1 d.2.1 d.2.2 k) rfl rfl rfl h h2
theorem k30 (hk : 1 ≤ k) (h : Ev n a E S (tr d)) (h2 : Ev n b E S (.int k)) : Ev n (.call 30 [a, b]) E S (.bl (rt d k).isSome) := c2 (m30 (n+14) d.1 d.2.1 d.2.2 k hk) rfl rfl rfl h h2
theorem k31 {b' : D} (hk : 1 ≤ k) (hb : rt d k = some b') (h : Ev n a E S (tr d)) (h2 : Ev n b E S (.int k)) : Ev n (.call 31 [a, b]) E S (tr b') := c2 (m31 (n+14) d.1 d.2.1 d.2.2 k hk hb) rfl rfl rfl h h2
theorem k28 (h : Ev n a E S (tr d)) (h2 : Ev n b E S (tr d2)) : Ev n (.call 28 [a, b]) E S (tr (led d d2)) := c2 (m28 (n+14) d.1 d.2.1 d.2.2 d2.1 d2.2.1 d2.2.2) rfl rfl rfl h h2
theorem k21 (h : Ev n a E S (tr d)) : Ev n (.call 21 [a]) E S (tr (und d)) := c1 (m21 (n+14) d.1 d.2.1 d.2.2) rfl rfl h
theorem k19 (h : Ev n a E S (tr d)) (h2 : Ev n b E S (tr d2)) : Ev n (.call 19 [a, b]) E S (tr (jn d d2)) := c2 (m19 (n+14) d.1 d.2.1 d.2.2 d2.1 d2.2.1 d2.2.2) rfl rfl rfl h h2
theorem k26 (h : Ev n a E S (tr d)) (h2 : Ev n b E S (tr d2)) : Ev n (.call 26 [a, b]) E S (tr (0, 0, crs d d2)) := c2 (m26 (n+14) d.1 d.2.1 d.2.2 d2.1 d2.2.1 d2.2.2) rfl rfl rfl h h2
theorem k43 (h : Ev n a E S (tr d)) (h2 : Ev n b E S (tr d2)) : Ev n (.call 43 [a, b]) E S (.bl (decide (crs d d2 = 0))) := c2 (m43 (n+14) d.1 d.2.1 d.2.2 d2.1 d2.2.1 d2.2.2) rfl rfl rfl h h2
theorem k38 (h : Ev n a E S (tr d)) (h2 : Ev n b E S (tr d2)) : Ev n (.call 38 [a, b]) E S (.bl (kin d d2)) := c2 (m38 (n+14) d.1 d.2.1 d.2.2 d2.1 d2.2.1 d2.2.2) rfl rfl rfl h h2
theorem k39 (h : Ev n a E S (tr d)) : Ev n (.call 39 [a]) E S (tr (lst d)) := c1 (m39 (n+14) d.1 d.2.1 d.2.2) rfl rfl h
theorem k33 {b' : D} (hd : d ≠ (0, 0, 0)) (hb : rt d (mst d) = some b') (h : Ev n a E S (tr d)) : Ev n (.call 33 [a]) E S (.tup [.int (mst d), tr b']) := by
  have q := m33 (n+14) d.1 d.2.1 d.2.2 fun ⟨p, q, r⟩ => hd (Prod.ext p (Prod.ext q r))
  have hb : rootO d.1 d.2.1 d.2.2 (mostI d.1 d.2.1 d.2.2) = some b' := hb
  rw [hb] at q
  exact c1 q rfl rfl h
theorem k34 {m : Int} (hm : tmO d d2 = some m) (h : Ev n a E S (tr d)) (h2 : Ev n b E S (tr d2)) : Ev n (.call 34 [a, b]) E S (.int m) := c2 (m34 (n+14) d.1 d.2.1 d.2.2 d2.1 d2.2.1 d2.2.2 hm) rfl rfl rfl h h2
theorem k35 (h : Ev n a E S (tr d)) (h2 : Ev n b E S (tr d2)) : Ev n (.call 35 [a, b]) E S (.bl (tmO d d2).isSome) := c2 (m35 (n+13) d.1 d.2.1 d.2.2 d2.1 d2.2.1 d2.2.2) rfl rfl rfl h h2
theorem k67 {b' : D} (hb : half (dX d.1 d2.1, dX d.2.1 d2.2.1, dZ d.1 d.2.1 d.2.2 d2.2.1 d2.2.2) = some b') (h : Ev n a E S (tr d)) (h2 : Ev n b E S (tr d2)) : Ev n (.call 67 [a, b]) E S (tr b') := c2 (m67 (n+14) d.1 d.2.1 d.2.2 d2.1 d2.2.1 d2.2.2 hb) rfl rfl rfl h h2
theorem k42 {c : Ex} {d3 : D} (hx : d.1.natAbs < 18446744073709551616) (hy : d.2.1.natAbs < 18446744073709551616) (h : Ev n a E S (tr d)) (h2 : Ev n b E S (tr d2)) (h3 : Ev n c E S (tr d3)) : Ev n (.call 42 [a, b, c]) E S (.bl (eqP (tr (led d d3)) (tr d2))) := c3 (m42r (n+14) d.1 d.2.1 d.2.2 d2.1 d2.2.1 d2.2.2 d3.1 d3.2.1 d3.2.2 hx hy) rfl rfl rfl rfl h h2 h3
theorem k28r {d3 : D} (hx : d.1.natAbs < 18446744073709551616) (hy : d.2.1.natAbs < 18446744073709551616) (h : Ev n a E S (tr d)) (h2 : Ev n b E S (tr d3)) : Ev n (.call 28 [a, b]) E S (tr (led d d3)) := c2 (m28r (n+14) d.1 d.2.1 d.2.2 d3.1 d3.2.1 d3.2.2 hx hy) rfl rfl rfl h h2
end
theorem eq_tr (d d2 : D) : eqP (tr d) (tr d2) = decide (d = d2) := by
  rw [eq3]
  congr 1
  exact propext ⟨fun ⟨a, b, c⟩ => Prod.ext a (Prod.ext b c), fun h => by rw [h]; exact ⟨rfl, rfl, rfl⟩⟩
theorem cmp_ne (d d2 : D) : cmpop .ne (tr d) (tr d2) = some (!decide (d = d2)) := by
  have h : ∀ d : D, Nat.ble (dep (tr d)) 60 = true := fun _ => rfl
  simp only [cmpop, eqOk, h, Bool.and_self, if_true, eq_tr]
theorem cmp_eq (d d2 : D) : cmpop .eq (tr d) (tr d2) = some (decide (d = d2)) := by
  have h : ∀ d : D, Nat.ble (dep (tr d)) 60 = true := fun _ => rfl
  simp only [cmpop, eqOk, h, Bool.and_self, if_true, eq_tr]
theorem cmp_bne (p q : Bool) : cmpop .ne (.bl p) (.bl q) = some (!(p == q)) := by cases p <;> cases q <;> rfl
theorem cmp_beq (p q : Bool) : cmpop .eq (.bl p) (.bl q) = some (p == q) := by cases p <;> cases q <;> rfl
theorem ix0 (x y z : Int) : ixP (t3 x y z) (.int 0) = some (.int x) := rfl
theorem ix1 (x y z : Int) : ixP (t3 x y z) (.int 1) = some (.int y) := rfl
theorem ix2 (x y z : Int) : ixP (t3 x y z) (.int 2) = some (.int z) := rfl
abbrev E22 (s l e3 e4 e5 e6 e7 e8 e9 e10 e11 e12 e13 e14 e15 e16 e17 e18 e19 e20 e21 : Option EV) : Env := [s, some (.r 0), l, e3, e4, e5, e6, e7, e8, e9, e10, e11, e12, e13, e14, e15, e16, e17, e18, e19, e20, e21]
abbrev s0 : Stm := .set 3 (.callS 76 [.var 1, .lst [.cst (.int 2), .cst (.int 6), .cst (.int 40), .bin .pow (.cst (.int 10)) (.cst (.int 6))]])
abbrev s1 : Stm := .par [10, 11, 12] [.callS 82 [.var 1, .var 3], .callS 82 [.var 1, .var 3], .bin .add (.cst (.int 1)) (.callS 74 [.var 1, .cst (.int 6)])]
abbrev s2 : Stm := .set 4 (.call 80 [.var 10, .var 12])
abbrev s3 : Stm := .ife (.no (.call 77 [.lst [.call 30 [.var 4, .var 12], .call 31 [.var 4, .var 12], .call 31 [.call 28 [.var 4, .var 11], .var 12], .call 30 [.call 21 [.var 4], .var 12]], .lst [.cst (.bl true), .var 10, .call 28 [.var 10, .var 11], .cst (.bl true)]])) [.ret (.cst (.bl false))] []
abbrev s4 : Stm := .tset (.tp [.nm 13, .nm 14, .nm 15]) (.var 11)
abbrev s5 : Stm := .set 5 (.bop true [.cmp .eq (.bin .mod (.var 13) (.var 12)) (.cst (.int 0)), .cmp .eq (.bin .mod (.var 14) (.var 12)) (.cst (.int 0)), .cmp .eq (.bin .mod (.bin .sub (.var 15) (.bin .mul (.bin .mul (.bin .fdiv (.bin .mul (.bin .sub (.var 12) (.cst (.int 1))) (.var 12)) (.cst (.int 2))) (.bin .fdiv (.var 13) (.var 12))) (.bin .fdiv (.var 14) (.var 12)))) (.var 12)) (.cst (.int 0))])
abbrev s6 : Stm := .ife (.bop false [.cmp .ne (.call 30 [.var 11, .var 12]) (.var 5), .cmp .eq (.cmp .eq (.heard 31 [.var 11, .var 12]) (.lst [.cst (.str [99, 97, 110, 32, 110, 111, 116]), .cst (.bl true)])) (.var 5)]) [.ret (.cst (.bl false))] []
abbrev b7 : List Stm := [.tset (.tp [.nm 19, .nm 20]) (.call 33 [.var 4]), .ife (.bop false [.cmp .ne (.call 23 [.var 20, .var 19]) (.var 4), .cmp .ne (.bin .mod (.var 19) (.var 12)) (.cst (.int 0)), .cmp .ne (.call 33 [.var 20]) (.tup [.cst (.int 1), .var 20])]) [.ret (.cst (.bl false))] [], .ife (.bop false [.cmp .ne (.ix (.call 33 [.var 10]) (.cst (.int 1))) (.var 20), .cmp .ne (.bin .mul (.ix (.call 33 [.var 10]) (.cst (.int 0))) (.var 12)) (.var 19)]) [.ret (.cst (.bl false))] [], .ife (.bop false [.cmp .ne (.call 34 [.var 10, .var 4]) (.var 12), .no (.call 35 [.var 10, .var 4]), .cmp .ne (.call 34 [.var 20, .call 21 [.var 4]]) (.bin .sub (.cst (.int 0)) (.var 19)), .no (.call 65 [.var 10, .tup [.cst (.int 0), .cst (.int 0), .cst (.int 0)], .var 4])]) [.ret (.cst (.bl false))] []]
abbrev s7 : Stm := .ife (.cmp .ne (.var 10) (.tup [.cst (.int 0), .cst (.int 0), .cst (.int 0)])) b7 []
abbrev s8 : Stm := .ife (.bop false [.cmp .ne (.call 35 [.var 10, .var 11]) (.cmp .ne (.heard 34 [.var 10, .var 11]) (.lst [.cst (.str [99, 97, 110, 32, 110, 111, 116]), .cst (.bl true)])), .bop true [.call 35 [.var 10, .var 11], .no (.call 43 [.var 10, .var 11])]]) [.ret (.cst (.bl false))] []
abbrev s9 : Stm := .set 6 (.call 28 [.var 10, .var 11])
abbrev s10 : Stm := .set 7 (.call 78 [.ix (.var 10) (.cst (.int 0)), .ix (.var 10) (.cst (.int 1))])
abbrev s11 : Stm := .ife (.bop false [.no (.call 38 [.var 10, .var 6]), .cmp .ne (.call 39 [.var 10]) (.call 39 [.var 6]), .no (.call 38 [.call 39 [.var 10], .var 10]), .cmp .ne (.call 19 [.call 26 [.var 11, .var 10], .var 10]) (.var 6), .no (.call 42 [.var 10, .var 6, .var 11])]) [.ret (.cst (.bl false))] []
abbrev s12 : Stm := .set 8 (.tup [.ix (.var 10) (.cst (.int 0)), .ix (.var 10) (.cst (.int 1)), .bin .add (.ix (.var 10) (.cst (.int 2))) (.callS 81 [.var 1, .cst (.int 9)])])
abbrev s13 : Stm := .set 9 (.ife (.cmp .gt (.var 7) (.cst (.int 0))) (.cmp .eq (.bin .mod (.bin .sub (.ix (.var 8) (.cst (.int 2))) (.ix (.var 10) (.cst (.int 2)))) (.var 7)) (.cst (.int 0))) (.cmp .eq (.var 8) (.var 10)))
abbrev s14 : Stm := .ife (.bop false [.cmp .ne (.call 38 [.var 10, .var 8]) (.var 9), .cmp .eq (.cmp .eq (.heard 41 [.var 10, .var 8]) (.lst [.cst (.str [99, 97, 110, 32, 110, 111, 116]), .cst (.bl true)])) (.var 9), .cmp .ne (.call 38 [.var 10, .var 11]) (.call 38 [.var 11, .var 10])]) [.ret (.cst (.bl false))] []
abbrev b15 : List Stm := [.set 16 (.call 41 [.var 10, .var 8]), .tset (.tp [.nm 20, .nm 21]) (.call 66 [.var 10, .var 8]), .ife (.bop false [.cmp .ne (.call 28 [.var 10, .var 16]) (.var 8), .cmp .ne (.ix (.var 16) (.cst (.int 2))) (.cst (.int 0)), .cmp .ne (.var 20) (.var 16), .no (.call 42 [.var 10, .var 8, .var 16]), .cmp .ne (.call 71 [.call 72 [.var 16], .var 10]) (.var 8)]) [.ret (.cst (.bl false))] [], .set 17 (.call 44 [.var 10, .bin .sub (.ix (.var 8) (.cst (.int 2))) (.ix (.var 10) (.cst (.int 2)))]), .ife (.bop false [.cmp .ne (.var 17) (.sl (.var 16) none (some (.cst (.int 2)))), .no (.call 84 [.var 21, .tup [.cst (.int 0), .cst (.int 0), .cst (.int 1)]])]) [.ret (.cst (.bl false))] [], .set 18 (.callS 76 [.var 1, .call 85 [.var 21]]), .ife (.bop false [.cmp .ne (.call 28 [.var 10, .var 18]) (.var 10), .cmp .ne (.call 28 [.var 10, .call 19 [.var 16, .var 18]]) (.var 8)]) [.ret (.cst (.bl false))] []]
abbrev s15 : Stm := .ife (.var 9) b15 []
abbrev s16 : Stm := .ife (.bop false [.cmp .ne (.call 67 [.var 10, .call 19 [.var 10, .call 80 [.var 11, .cst (.int 2)]]]) (.var 11), .cmp .eq (.cmp .eq (.heard 67 [.var 10, .var 11]) (.lst [.cst (.str [99, 97, 110, 32, 110, 111, 116]), .cst (.bl true)])) (.call 30 [.call 19 [.call 21 [.var 10], .var 11], .cst (.int 2)])]) [.ret (.cst (.bl false))] []
abbrev s17 : Stm := .ife (.bop false [.cmp .notin (.ix (.call 63 [.var 10, .tup [.cst (.int 0), .cst (.int 0), .cst (.int 0)], .var 4]) (.cst (.int 0))) (.tup [.cst (.str [108, 105, 110, 101]), .cst (.str [97, 108, 108])]), .bop true [.cmp .eq (.var 10) (.tup [.cst (.int 0), .cst (.int 0), .cst (.int 0)]), .cmp .ne (.call 63 [.var 10, .var 10, .var 10]) (.tup [.cst (.str [97, 108, 108])])]]) [.ret (.cst (.bl false))] []
abbrev lapB : List Stm := [s0, s1, s2, s3, s4, s5, s6, s7, s8, s9, s10, s11, s12, s13, s14, s15, s16, s17]
/-- what is known of the two drawn deeds and the number of times -/
structure Lp (one two : D) (k : Int) : Prop where
  x : one.1.natAbs < 2 ^ 20
  y : one.2.1.natAbs < 2 ^ 20
  z : one.2.2.natAbs < 2 ^ 20
  x2 : two.1.natAbs < 2 ^ 20
  y2 : two.2.1.natAbs < 2 ^ 20
  z2 : two.2.2.natAbs < 2 ^ 20
  k1 : 1 ≤ k
  k6 : k ≤ 6
section
variable {one two : D} {k : Int}
theorem Lp.bk (L : Lp one two k) : Bd k 3 := ⟨by have := L.k1; have := L.k6; omega⟩
theorem tms_bd {x y z k : Int} (hx : x.natAbs < 2 ^ 20) (hy : y.natAbs < 2 ^ 20) (hz : z.natAbs < 2 ^ 20) (bk : Bd k 3) : (k * x).natAbs < 2 ^ 23 ∧ (k * y).natAbs < 2 ^ 23 ∧ (k * z + Tri k * x * y).natAbs < 2 ^ 50 := by
  haveI b1 : Bd x 20 := ⟨hx⟩
  haveI b2 : Bd y 20 := ⟨hy⟩
  haveI b3 : Bd z 20 := ⟨hz⟩
  haveI b4 : Bd (Tri k) 7 := (show Bd ((k * (k - 1)).fdiv 2) 7 from inferInstance)
  refine ⟨(inferInstance : Bd (k * x) 23).h, (inferInstance : Bd (k * y) 23).h, ?_⟩
  exact Nat.lt_of_lt_of_le (inferInstance : Bd (k * z + Tri k * x * y) _).h (Nat.pow_le_pow_right (by decide) (by decide))
theorem c3of {d : D} {a : Nat} (h1 : d.1.natAbs < 2 ^ a) (h2 : d.2.1.natAbs < 2 ^ a) (h3 : d.2.2.natAbs < 2 ^ a) (ha : a ≤ 200) : C3 d :=
  ⟨⟨Nat.lt_of_lt_of_le h1 (Nat.pow_le_pow_right (by decide) ha)⟩, ⟨Nat.lt_of_lt_of_le h2 (Nat.pow_le_pow_right (by decide) ha)⟩, ⟨Nat.lt_of_lt_of_le h3 (Nat.pow_le_pow_right (by decide) ha)⟩⟩
theorem led_bd {d d2 : D} (h1 : d.1.natAbs < 2 ^ 50) (h2 : d.2.1.natAbs < 2 ^ 50) (h3 : d.2.2.natAbs < 2 ^ 50) (g1 : d2.1.natAbs < 2 ^ 50) (g2 : d2.2.1.natAbs < 2 ^ 50) : C3 (led d d2) := by
  haveI b1 : Bd d.1 50 := ⟨h1⟩
  haveI b2 : Bd d.2.1 50 := ⟨h2⟩
  haveI b3 : Bd d.2.2 50 := ⟨h3⟩
  haveI b4 : Bd d2.1 50 := ⟨g1⟩
  haveI b5 : Bd d2.2.1 50 := ⟨g2⟩
  exact ⟨(B2.of (a := 50) (by decide) : B2 d.1), (B2.of (a := 50) (by decide) : B2 d.2.1), (B2.of (by decide) : B2 (d.2.2 + (d2.1 * d.2.1 - d2.2.1 * d.1)))⟩
theorem und_bd {d : D} (h1 : d.1.natAbs < 2 ^ 50) (h2 : d.2.1.natAbs < 2 ^ 50) (h3 : d.2.2.natAbs < 2 ^ 50) : C3 (und d) := by
  haveI b1 : Bd d.1 50 := ⟨h1⟩
  haveI b2 : Bd d.2.1 50 := ⟨h2⟩
  haveI b3 : Bd d.2.2 50 := ⟨h3⟩
  exact ⟨(B2.of (a := 50) (by decide) : B2 (-d.1)), (B2.of (a := 50) (by decide) : B2 (-d.2.1)), (B2.of (by decide) : B2 (d.1 * d.2.1 - d.2.2))⟩
structure Lq (one two : D) (k : Int) : Prop where
  c1 : C3 one
  c2 : C3 two
  bk : B2 k
  cp : C3 (tms one k)
  clp : C3 (led (tms one k) two)
  cup : C3 (und (tms one k))
  cf : C3 (led one two)
  cu : C3 (und one)
  c22 : C3 (tms two 2)
theorem Lp.q (L : Lp one two k) : Lq one two k := by
  obtain ⟨p1, p2, p3⟩ := tms_bd L.x L.y L.z L.bk
  have h20 : (2 : Nat) ^ 20 < 2 ^ 50 := by decide
  have h23 : (2 : Nat) ^ 23 < 2 ^ 50 := by decide
  have lx := L.x
  have ly := L.y
  have lz := L.z
  have lx2 := L.x2
  have ly2 := L.y2
  have lz2 := L.z2
  haveI := L.bk
  obtain ⟨q1, q2, q3⟩ := tms_bd L.x2 L.y2 L.z2 (show Bd (2 : Int) 3 from ⟨by decide⟩)
  exact ⟨c3of L.x L.y L.z (by decide), c3of L.x2 L.y2 L.z2 (by decide), B2.of (a := 3) (by decide), c3of (a := 50) (show (k * one.1).natAbs < _ by omega) (show (k * one.2.1).natAbs < _ by omega) p3 (by decide),
    led_bd (show (k * one.1).natAbs < _ by omega) (show (k * one.2.1).natAbs < _ by omega) p3 (by omega) (by omega), und_bd (show (k * one.1).natAbs < _ by omega) (show (k * one.2.1).natAbs < _ by omega) p3, led_bd (by omega) (by omega) (by omega) (by omega) (by omega),
    und_bd (by omega) (by omega) (by omega), c3of (a := 50) (show (2 * two.1).natAbs < _ by omega) (show (2 * two.2.1).natAbs < _ by omega) q3 (by decide)⟩
end
end A71

set_option linter.all false
set_option maxRecDepth 100000
set_option maxHeartbeats 4000000
namespace A71
open Py
theorem mst_lt {d : D} {a : Nat} (h1 : d.1.natAbs < 2 ^ a) (h2 : d.2.1.natAbs < 2 ^ a) (h3 : d.2.2.natAbs < 2 ^ a) : (mst d).natAbs < 2 ^ a := by
  unfold mst mostI
  by_cases c : d.1 = 0 ∧ d.2.1 = 0
  · rw [if_pos c]
    omega
  · rw [if_neg c]
    have gp := gc_pos c
    have gb : (gc d.1 d.2.1).natAbs < 2 ^ a := by
      show (((Nat.gcd d.1.natAbs d.2.1.natAbs : Nat)) : Int).natAbs < _
      by_cases hx0 : d.1.natAbs = 0
      · rw [hx0, Nat.gcd_zero_left]; exact h2
      · have := Nat.gcd_le_left d.2.1.natAbs (Nat.pos_of_ne_zero hx0)
        omega
    have le : ∀ w : Int, (gc (gc d.1 d.2.1) w).natAbs ≤ (gc d.1 d.2.1).natAbs := fun w => by
      show ((Nat.gcd (gc d.1 d.2.1).natAbs w.natAbs : Nat) : Int).natAbs ≤ _
      have := Nat.gcd_le_left w.natAbs (show 0 < (gc d.1 d.2.1).natAbs by omega)
      omega
    split
    · exact Nat.lt_of_le_of_lt (le _) gb
    · exact Nat.lt_of_le_of_lt (le _) gb
theorem rt_bd {d b : D} {m : Int} (h : rt d m = some b) (h1 : d.1.natAbs < 2 ^ 20) (h2 : d.2.1.natAbs < 2 ^ 20) (h3 : d.2.2.natAbs < 2 ^ 20) (hm : m.natAbs < 2 ^ 20) : C3 b := by
  unfold rt rootO at h
  split at h
  · cases h
    haveI b1 : Bd d.1 20 := ⟨h1⟩
    haveI b2 : Bd d.2.1 20 := ⟨h2⟩
    haveI b3 : Bd d.2.2 20 := ⟨h3⟩
    haveI b4 : Bd m 20 := ⟨hm⟩
    exact ⟨(B2.of (by decide) : B2 (d.1.fdiv m)), (B2.of (by decide) : B2 (d.2.1.fdiv m)), (B2.of (by decide) : B2 ((d.2.2 - (m * (m - 1)).fdiv 2 * d.1.fdiv m * d.2.1.fdiv m).fdiv m))⟩
  · cases h
section
variable {n : Nat} {E : Env} {S : Store}
theorem ss_t2 {i j : Nat} {a : Ex} {x y : PV} {ss : List Stm} {r : Option (Fl × Env × Store)} (h : Ev n a E S (.tup [x, y])) (hx : toR x = .v x) (hy : toR y = .v y) (k : exs G (CC n) 5000 ss ((E.set i (some (.v x))).set j (some (.v y))) S = r) : exs G (CC n) 5000 (.tset (.tp [.nm i, .nm j]) a :: ss) E S = r := by
  have h : ev G (CC n) a E S = some (.v (.tup [x, y]), S) := h
  refine exs_next ?_ k
  simp only [ex, hTset, h, stor, asg, asgs, hx, hy]
theorem e_mod0 {a b : Ex} {k m : Int} (hk : k ≠ 0) (h : Ev n a E S (.int (k * m))) (h2 : Ev n b E S (.int k)) : Ev n (.bin .mod a b) E S (.int 0) := by
  refine e_bin h h2 ?_
  simp [binop, binI, hk, fmod_mul]
theorem e_mulR {a b : Ex} {k m : Int} (hk : k.natAbs < 18446744073709551616) (h : Ev n a E S (.int m)) (h2 : Ev n b E S (.int k)) : Ev n (.bin .mul a b) E S (.int (m * k)) := by
  refine e_bin h h2 ?_
  simp [binop, binI, mulOkR hk]
theorem e_sub {a b : Ex} {k m : Int} (h : Ev n a E S (.int m)) (h2 : Ev n b E S (.int k)) : Ev n (.bin .sub a b) E S (.int (m - k)) := e_bin h h2 rfl
/-- pairs_for(one, nothing, power) -/
theorem pf {one two : D} {k : Int} (L : Lp one two k) (n : Nat) : (one = (0, 0, 0) ∧ fv (n+6) 63 [tr one, t3 0 0 0, tr (tms one k)] = some (.v (.tup [.str [97, 108, 108]]))) ∨ ∃ u v : PV, (noC u = true ∧ dep u = 1) ∧ (noC v = true ∧ dep v = 1) ∧ one ≠ (0, 0, 0) ∧ fv (n+6) 63 [tr one, t3 0 0 0, tr (tms one k)] = some (.v (.tup [.str [108, 105, 110, 101], u, v])) := by
  have Q := L.q
  haveI := Q.c1
  haveI := Q.cp
  obtain ⟨p1, p2, p3⟩ := tms_bd L.x L.y L.z L.bk
  have hT := T2 k
  have lx := L.x
  have ly := L.y
  have lz := L.z
  have bt : (2 * one.2.2 - one.1 * one.2.1).natAbs < 2 ^ 63 := by
    haveI b1 : Bd one.1 20 := ⟨L.x⟩
    haveI b2 : Bd one.2.1 20 := ⟨L.y⟩
    haveI b3 : Bd one.2.2 20 := ⟨L.z⟩
    exact Nat.lt_of_lt_of_le (inferInstance : Bd (2 * one.2.2 - one.1 * one.2.1) _).h (Nat.pow_le_pow_right (by decide) (by decide))
  have bT : (2 * (k * one.2.2 + Tri k * one.1 * one.2.1) - k * one.1 * (k * one.2.1)).natAbs < 2 ^ 63 := by
    haveI b1 : Bd (k * one.1) 23 := ⟨p1⟩
    haveI b2 : Bd (k * one.2.1) 23 := ⟨p2⟩
    haveI b3 : Bd (k * one.2.2 + Tri k * one.1 * one.2.1) 50 := ⟨p3⟩
    exact Nat.lt_of_lt_of_le (inferInstance : Bd (2 * (k * one.2.2 + Tri k * one.1 * one.2.1) - k * one.1 * (k * one.2.1)) _).h (Nat.pow_le_pow_right (by decide) (by decide))
  have := m63 n k one.1 one.2.1 one.2.2 (tms one k).1 (tms one k).2.1 (tms one k).2.2 rfl rfl (by
    show 2 * (k * one.2.2 + Tri k * one.1 * one.2.1) - k * one.1 * (k * one.2.1) = _
    grind) ⟨by omega, show (k * one.1).natAbs < _ by omega⟩ ⟨by omega, show (k * one.2.1).natAbs < _ by omega⟩ ⟨bt, bT⟩
  rcases this with ⟨h1, h2, h3, h4⟩ | ⟨u, v, cu, cv, nz, h4⟩
  · exact .inl ⟨Prod.ext h1 (Prod.ext h2 h3), h4⟩
  · exact .inr ⟨u, v, cu, cv, fun q => nz (by rw [q]; exact ⟨rfl, rfl, rfl⟩), h4⟩
theorem root_blk {one two : D} {k : Int} (L : Lp one two k) (hd : one ≠ (0, 0, 0)) (s l e3 e5 e6 e7 e8 e9 e13 e14 e15 e16 e17 e18 e19 e20 e21 : Option EV) :
    ∃ o19 o20, exs G (CC n) 5000 b7 (E22 s l e3 (some (.v (tr (tms one k)))) e5 e6 e7 e8 e9 (some (.v (tr one))) (some (.v (tr two))) (some (.v (.int k))) e13 e14 e15 e16 e17 e18 e19 e20 e21) S = some (.next, E22 s l e3 (some (.v (tr (tms one k)))) e5 e6 e7 e8 e9 (some (.v (tr one))) (some (.v (tr two))) (some (.v (.int k))) e13 e14 e15 e16 e17 e18 o19 o20 e21, S) := by
  have Q := L.q
  haveI := Q.c1
  haveI := Q.c2
  haveI := Q.bk
  haveI := Q.cp
  haveI := Q.cup
  have hk := L.k1
  have hk6 := L.k6
  obtain ⟨b, hp, hb, ht, hm1, hb1, hb0⟩ := base_ok one hd
  obtain ⟨q1, q2, q3⟩ := base_pow one b k hk hp ht
  have bm : (mst one).natAbs < 2 ^ 20 := mst_lt L.x L.y L.z
  haveI : C3 b := rt_bd hb L.x L.y L.z bm
  haveI : B2 (k * mst one) := by
    haveI := L.bk
    haveI : Bd (mst one) 20 := ⟨bm⟩
    exact B2.of (by decide)
  have hP : tms one k ≠ (0, 0, 0) := fun q => by
    rw [q] at q1
    have z : mst ((0, 0, 0) : D) = 0 := rfl
    rw [z] at q1
    rcases Int.mul_eq_zero.mp q1.symm with r | r <;> omega
  have hb' : rt b (mst b) = some b := by rw [hm1]; exact hb1
  have hPb : rt (tms one k) (mst (tms one k)) = some b := by rw [q1]; exact q2
  have g1 := tmO_tms one k hd
  have g2 := tmO_tms b (-(k * mst one)) hb0
  have g3 : und (tms one k) = tms b (-(k * mst one)) := by rw [← q3, und_tms]
  refine ⟨some (.v (.int (k * mst one))), some (.v (tr b)), ?_⟩
  have e33 : ∀ {E : Env} {S : Store}, E[4]? = some (some (.v (tr (tms one k)))) → Ev n (.call 33 [.var 4]) E S (.tup [.int (k * mst one), tr b]) := fun {E S} h => by
    have := k33 (n := n) (E := E) (S := S) (a := .var 4) hP hPb (ev_v h)
    rw [q1] at this
    exact this
  refine ss_t2 (e33 rfl) rfl rfl ?_
  refine ss_no (o3 (e_ne (x := tr (tms one k)) ?_ (ev_v rfl) rfl rfl) (e_ne (x := .int 0) (e_mod0 (k := k) (m := mst one) (by omega) (ev_v rfl) (ev_v rfl)) ev_c rfl rfl) (e_ne (x := .tup [.int 1, tr b]) ?_ (e_tup (es1 ev_c (es1 (ev_v rfl) es0)) (show 2 ≤ line by decide)) rfl rfl)) ?_
  · have := k23 (n := n) (d := b) (k := k * mst one) (E := E22 s l e3 (some (.v (tr (tms one k)))) e5 e6 e7 e8 e9 (some (.v (tr one))) (some (.v (tr two))) (some (.v (.int k))) e13 e14 e15 e16 e17 e18 (some (.v (.int (k * mst one)))) (some (.v (tr b))) e21) (S := S) (a := .var 20) (b := .var 19) (ev_v rfl) (ev_v rfl)
    rw [q3] at this
    exact this
  · have := k33 (n := n) (d := b) (b' := b) hb0 hb' (E := E22 s l e3 (some (.v (tr (tms one k)))) e5 e6 e7 e8 e9 (some (.v (tr one))) (some (.v (tr two))) (some (.v (.int k))) e13 e14 e15 e16 e17 e18 (some (.v (.int (k * mst one)))) (some (.v (tr b))) e21) (S := S) (a := .var 20) (ev_v rfl)
    rw [hm1] at this
    exact this
  refine ss_no (o2 (e_ne (x := tr b) (e_ix (k33 (d := one) (b' := b) hd hb (ev_v rfl)) rfl rfl) (ev_v rfl) rfl rfl) (e_ne (x := .int (k * mst one)) ?_ (ev_v rfl) rfl rfl)) ?_
  · rw [Int.mul_comm]
    exact e_mulR (by omega) (e_ix (k33 (d := one) (b' := b) hd hb (ev_v rfl)) rfl rfl) (ev_v rfl)
  refine ss_no (o4 (e_ne (x := .int k) (k34 (d := one) (d2 := tms one k) g1 (ev_v rfl) (ev_v rfl)) (ev_v rfl) rfl rfl) (e_noT ?_) (e_ne (x := .int (0 - k * mst one)) ?_ (e_sub ev_c (ev_v rfl)) rfl rfl) (e_noT ?_)) rfl
  · have := k35 (n := n) (d := one) (d2 := tms one k) (E := E22 s l e3 (some (.v (tr (tms one k)))) e5 e6 e7 e8 e9 (some (.v (tr one))) (some (.v (tr two))) (some (.v (.int k))) e13 e14 e15 e16 e17 e18 (some (.v (.int (k * mst one)))) (some (.v (tr b))) e21) (S := S) (a := .var 10) (b := .var 4) (ev_v rfl) (ev_v rfl)
    rw [g1] at this
    exact this
  · rw [show (0 : Int) - k * mst one = -(k * mst one) by omega]
    refine k34 (d := b) (d2 := und (tms one k)) (by rw [g3]; exact g2) (ev_v rfl) (k21 (d := tms one k) (ev_v rfl))
  · rcases pf L (n+13) with ⟨q, _⟩ | ⟨u, v, cu, cv, _, h63⟩
    · exact absurd q hd
    · exact c3 (m65 (n+13) (tr one) (t3 0 0 0) (tr (tms one k)) rfl rfl rfl cu cv h63) rfl rfl rfl rfl (ev_v rfl) (e_tup (es1 ev_c (es1 ev_c (es1 ev_c es0))) (show 3 ≤ line by decide)) (ev_v rfl)
end
end A71

set_option linter.all false
set_option maxRecDepth 100000
set_option maxHeartbeats 4000000
namespace A71
open Py
section
variable {n : Nat} {E : Env} {S : Store}
theorem ss_t3 {i j l : Nat} {a : Ex} {x y z : Int} {ss : List Stm} {r : Option (Fl × Env × Store)} (h : Ev n a E S (t3 x y z)) (k : exs G (CC n) 5000 ss (((E.set i (some (.v (.int x)))).set j (some (.v (.int y)))).set l (some (.v (.int z)))) S = r) : exs G (CC n) 5000 (.tset (.tp [.nm i, .nm j, .nm l]) a :: ss) E S = r := by
  have h : ev G (CC n) a E S = some (.v (t3 x y z), S) := h
  refine exs_next ?_ k
  simp only [ex, hTset, h, stor, asg, asgs, toR]
theorem e_and3 {a b c : Ex} {p q r : Bool} (h : Ev n a E S (.bl p)) (h2 : Ev n b E S (.bl q)) (h3 : Ev n c E S (.bl r)) : Ev n (.bop true [a, b, c]) E S (.bl (p && (q && r))) := by
  have h : ev G (CC n) a E S = some (.v (.bl p), S) := h
  have h2 : ev G (CC n) b E S = some (.v (.bl q), S) := h2
  have h3 : ev G (CC n) c E S = some (.v (.bl r), S) := h3
  show ev G _ _ _ _ = _
  cases p <;> cases q <;> simp only [ev, evB, gAnd, h, h2, h3, rdT, rd, truth, Bool.true_and, Bool.false_and]
theorem e_ife {c a b : Ex} {t : Bool} {x : PV} (h : Ev n c E S (.bl t)) (ha : t = true → Ev n a E S x) (hb : t = false → Ev n b E S x) : Ev n (.ife c a b) E S x := by
  have h : ev G (CC n) c E S = some (.v (.bl t), S) := h
  show ev G _ _ _ _ = _
  cases t with
  | true =>
    have ha : ev G (CC n) a E S = some (.v x, S) := ha rfl
    simp only [ev, gIfe, h, rdT, rd, truth, ha]
  | false =>
    have hb : ev G (CC n) b E S = some (.v x, S) := hb rfl
    simp only [ev, gIfe, h, rdT, rd, truth, hb]
theorem e_mod {a b : Ex} {x y : Int} (hy : y ≠ 0) (h : Ev n a E S (.int x)) (h2 : Ev n b E S (.int y)) : Ev n (.bin .mod a b) E S (.int (x.fmod y)) := by
  refine e_bin h h2 ?_
  simp [binop, binI, hy]
theorem e_fdiv {a b : Ex} {x y : Int} (hy : y ≠ 0) (hl : Nat.log2 y.natAbs < 9000) (h : Ev n a E S (.int x)) (h2 : Ev n b E S (.int y)) : Ev n (.bin .fdiv a b) E S (.int (x.fdiv y)) := by
  refine e_bin h h2 ?_
  simp [binop, binI, hy, hl]
theorem e_mul {a b : Ex} {x y : Int} (hm : mulOk x y = true) (h : Ev n a E S (.int x)) (h2 : Ev n b E S (.int y)) : Ev n (.bin .mul a b) E S (.int (x * y)) := by
  refine e_bin h h2 ?_
  simp [binop, binI, hm]
theorem e_add {a b : Ex} {k m : Int} (h : Ev n a E S (.int m)) (h2 : Ev n b E S (.int k)) : Ev n (.bin .add a b) E S (.int (m + k)) := e_bin h h2 rfl
theorem e_eqI {a b : Ex} {x y : Int} (h : Ev n a E S (.int x)) (h2 : Ev n b E S (.int y)) : Ev n (.cmp .eq a b) E S (.bl (decide (x = y))) := e_cmp h h2 (by simp [cmpop, eqOk, dep, eqP])
end
/-! ### what is heard -/
theorem hf31 (n : Nat) (d : D) (k : Int) [C3 d] [B2 k] (hk : 1 ≤ k) : fv (n + 20) (31 + far2) [tr d, .int k] = some (match (rt d k).map tr with | some y => .v y | none => .own (.lst heardV)) := by
  have h := h31 (n+13) d.1 d.2.1 d.2.2 k hk
  cases q : rt d k with
  | none =>
    have q : rootO d.1 d.2.1 d.2.2 k = none := q
    rw [q] at h
    exact h
  | some b =>
    have q : rootO d.1 d.2.1 d.2.2 k = some b := q
    rw [q] at h
    exact h
theorem hf34 (n : Nat) (d d2 : D) [C3 d] [C3 d2] : fv (n + 20) (34 + far2) [tr d, tr d2] = some (match (tmO d d2).map PV.int with | some y => .v y | none => .own (.lst heardV)) := by
  have h := h34 (n+13) d.1 d.2.1 d.2.2 d2.1 d2.2.1 d2.2.2
  cases q : tmO d d2 with
  | none =>
    have q : timesO d.1 d.2.1 d.2.2 d2.1 d2.2.1 d2.2.2 = none := q
    rw [q] at h
    exact h
  | some b =>
    have q : timesO d.1 d.2.1 d.2.2 d2.1 d2.2.1 d2.2.2 = some b := q
    rw [q] at h
    exact h
theorem hf67 (n : Nat) (d d2 : D) [C3 d] [C3 d2] : fv (n + 20) (67 + far2) [tr d, tr d2] = some (match (half (dX d.1 d2.1, dX d.2.1 d2.2.1, dZ d.1 d.2.1 d.2.2 d2.2.1 d2.2.2)).map tr with | some y => .v y | none => .own (.lst heardV)) := by
  have h := h67 (n+13) d.1 d.2.1 d.2.2 d2.1 d2.2.1 d2.2.2
  cases q : half (dX d.1 d2.1, dX d.2.1 d2.2.1, dZ d.1 d.2.1 d.2.2 d2.2.1 d2.2.2) with
  | none =>
    have q : halfO (dX d.1 d2.1) (dX d.2.1 d2.2.1) (dZ d.1 d.2.1 d.2.2 d2.2.1 d2.2.2) = none := q
    rw [q] at h
    exact h
  | some b =>
    have q : halfO (dX d.1 d2.1) (dX d.2.1 d2.2.1) (dZ d.1 d.2.1 d.2.2 d2.2.1 d2.2.2) = some b := q
    rw [q] at h
    exact h
theorem good_tr (o : Option D) : ∀ y, o.map tr = some y → noC y = true ∧ Nat.ble (dep y) 60 = true ∧ eqP y (.lst heardV) = false := fun y h => by
  obtain ⟨d, _, rfl⟩ := Option.map_eq_some_iff.mp h
  exact ⟨rfl, rfl, rfl⟩
theorem good_int (o : Option Int) : ∀ y, o.map PV.int = some y → noC y = true ∧ Nat.ble (dep y) 60 = true ∧ eqP y (.lst heardV) = false := fun y h => by
  obtain ⟨d, _, rfl⟩ := Option.map_eq_some_iff.mp h
  exact ⟨rfl, rfl, rfl⟩
theorem no_yes {α : Type} (o : Option α) : (o.isNone == o.isSome) = false := by cases o <;> rfl
theorem fits_eq (two : D) (k : Int) : (decide (two.1.fmod k = 0) && (decide (two.2.1.fmod k = 0) && decide ((two.2.2 - ((k - 1) * k).fdiv 2 * two.1.fdiv k * two.2.1.fdiv k).fmod k = 0))) = (rt two k).isSome := by
  unfold rt rootO
  rw [Int.mul_comm (k - 1) k]
  by_cases c : two.1.fmod k = 0 ∧ two.2.1.fmod k = 0 ∧ (two.2.2 - (k * (k - 1)).fdiv 2 * two.1.fdiv k * two.2.1.fdiv k).fmod k = 0
  · rw [if_pos c]
    obtain ⟨c1, c2, c3⟩ := c
    simp [c1, c2, c3]
  · rw [if_neg c]
    simp only [Option.isSome_none]
    rw [← Bool.not_eq_true]
    simp only [Bool.and_eq_true, decide_eq_true_eq]
    exact c
section
variable {n : Nat} {S : Store} {one two : D} {k : Int}
/-- the statements up to the root's block -/
theorem lapA0 (L : Lp one two k) (s l e3 e4 e5 e6 e7 e8 e9 e13 e14 e15 e16 e17 e18 e19 e20 e21 : Option EV) (ss : List Stm) (r : Option (Fl × Env × Store))
    (K : exs G (CC n) 5000 (s7 :: ss) (E22 s l e3 (some (.v (tr (tms one k)))) (some (.v (.bl (rt two k).isSome))) e6 e7 e8 e9 (some (.v (tr one))) (some (.v (tr two))) (some (.v (.int k))) (some (.v (.int two.1))) (some (.v (.int two.2.1))) (some (.v (.int two.2.2))) e16 e17 e18 e19 e20 e21) S = r) :
    exs G (CC n) 5000 (s2 :: s3 :: s4 :: s5 :: s6 :: s7 :: ss) (E22 s l e3 e4 e5 e6 e7 e8 e9 (some (.v (tr one))) (some (.v (tr two))) (some (.v (.int k))) e13 e14 e15 e16 e17 e18 e19 e20 e21) S = r := by
  have Q := L.q
  haveI := Q.c1
  haveI := Q.c2
  haveI := Q.bk
  haveI := Q.cp
  haveI := Q.clp
  haveI := Q.cup
  have hk := L.k1
  have hk6 := L.k6
  have kn : k ≠ 0 := by omega
  have lk := lgB (i := k)
  refine ss_set (k80 (d := one) (ev_v rfl) (ev_v rfl)) ?_
  have r1 := rt_tms one k kn
  have r2 : rt (led (tms one k) two) k = some (led one two) := by rw [led_tms]; exact rt_tms _ k kn
  have r3 : (rt (und (tms one k)) k).isSome = true := by rw [← tms_und, rt_tms _ k kn]; rfl
  refine ss_no (e_same (xs := [.bl true, tr one, tr (led one two), .bl true]) (es1 ?_ (es1 (k31 (d := tms one k) hk r1 (ev_v rfl) (ev_v rfl)) (es1 (k31 (d := led (tms one k) two) hk r2 (k28 (d := tms one k) (d2 := two) (ev_v rfl) (ev_v rfl)) (ev_v rfl)) (es1 ?_ es0)))) (es1 ev_c (es1 (ev_v rfl) (es1 (k28 (d := one) (d2 := two) (ev_v rfl) (ev_v rfl)) (es1 ev_c es0)))) (show 4 ≤ line by decide) rfl ?_ (by simp [dep, deps])) ?_
  · rw [← show (rt (tms one k) k).isSome = true by rw [r1]; rfl]
    exact k30 (d := tms one k) hk (ev_v rfl) (ev_v rfl)
  · rw [← r3]
    exact k30 (d := und (tms one k)) hk (k21 (d := tms one k) (ev_v rfl)) (ev_v rfl)
  · simp [sml, smls, line]
  refine ss_t3 (x := two.1) (y := two.2.1) (z := two.2.2) (ev_v rfl) ?_
  have m1 : mulOk (k - 1) k = true := mulOkR (by omega)
  have m2 : mulOk (((k - 1) * k).fdiv 2) (two.1.fdiv k) = true := by
    haveI := L.bk
    haveI : Bd two.1 20 := ⟨L.x2⟩
    exact mulOk_bd (by decide)
  have m3 : mulOk (((k - 1) * k).fdiv 2 * two.1.fdiv k) (two.2.1.fdiv k) = true := by
    haveI := L.bk
    haveI : Bd two.1 20 := ⟨L.x2⟩
    haveI : Bd two.2.1 20 := ⟨L.y2⟩
    exact mulOk_bd (by decide)
  refine ss_set (x := .bl (rt two k).isSome) ?_ ?_
  · rw [← fits_eq two k]
    exact e_and3 (e_eqI (e_mod kn (ev_v rfl) (ev_v rfl)) ev_c) (e_eqI (e_mod kn (ev_v rfl) (ev_v rfl)) ev_c) (e_eqI (e_mod kn (e_sub (ev_v rfl) (e_mul m3 (e_mul m2 (e_fdiv (by decide) l2 (e_mul m1 (e_sub (ev_v rfl) ev_c) (ev_v rfl)) ev_c) (e_fdiv kn lk (ev_v rfl) (ev_v rfl))) (e_fdiv kn lk (ev_v rfl) (ev_v rfl)))) (ev_v rfl)) ev_c)
  refine ss_no (o2 (e_ne (k30 (d := two) hk (ev_v rfl) (ev_v rfl)) (ev_v rfl) rfl rfl) ?_) ?_
  · have hh := hEq (n := n) (S := S) (hf31 n two k hk) rfl rfl (good_tr _) (a := .var 11) (b := .var 12) (E := E22 s l e3 (some (.v (tr (tms one k)))) (some (.v (.bl (rt two k).isSome))) e6 e7 e8 e9 (some (.v (tr one))) (some (.v (tr two))) (some (.v (.int k))) (some (.v (.int two.1))) (some (.v (.int two.2.1))) (some (.v (.int two.2.2))) e16 e17 e18 e19 e20 e21) (ev_v rfl) (ev_v rfl)
    refine e_cmp hh (ev_v (x := .bl (rt two k).isSome) rfl) ?_
    rw [cmp_beq]
    congr 1
    cases rt two k <;> rfl
  exact K
/-- the first statements behind the draws -/
theorem lapA (L : Lp one two k) (s l e3 e4 e5 e6 e7 e8 e9 e13 e14 e15 e16 e17 e18 e19 e20 e21 : Option EV) :
    ∃ o5 o13 o14 o15 o19 o20, ∀ (ss : List Stm) (r : Option (Fl × Env × Store)), exs G (CC n) 5000 ss (E22 s l e3 (some (.v (tr (tms one k)))) o5 e6 e7 e8 e9 (some (.v (tr one))) (some (.v (tr two))) (some (.v (.int k))) o13 o14 o15 e16 e17 e18 o19 o20 e21) S = r →
    exs G (CC n) 5000 (s2 :: s3 :: s4 :: s5 :: s6 :: s7 :: ss) (E22 s l e3 e4 e5 e6 e7 e8 e9 (some (.v (tr one))) (some (.v (tr two))) (some (.v (.int k))) e13 e14 e15 e16 e17 e18 e19 e20 e21) S = r := by
  have test : Ev n (.cmp .ne (.var 10) (.tup [.cst (.int 0), .cst (.int 0), .cst (.int 0)])) (E22 s l e3 (some (.v (tr (tms one k)))) (some (.v (.bl (rt two k).isSome))) e6 e7 e8 e9 (some (.v (tr one))) (some (.v (tr two))) (some (.v (.int k))) (some (.v (.int two.1))) (some (.v (.int two.2.1))) (some (.v (.int two.2.2))) e16 e17 e18 e19 e20 e21) S (.bl (!decide (one = (0, 0, 0)))) :=
    e_cmp (ev_v rfl) (e_tup (es1 ev_c (es1 ev_c (es1 ev_c es0))) (show 3 ≤ line by decide)) (cmp_ne one (0, 0, 0))
  by_cases h0 : one = (0, 0, 0)
  · rw [decide_eq_true h0] at test
    refine ⟨some (.v (.bl (rt two k).isSome)), some (.v (.int two.1)), some (.v (.int two.2.1)), some (.v (.int two.2.2)), e19, e20, fun ss r K => lapA0 L s l e3 e4 e5 e6 e7 e8 e9 e13 e14 e15 e16 e17 e18 e19 e20 e21 ss r ?_⟩
    exact ss_if (E' := _) (S' := _) test (fun q => nomatch q) (fun _ => ⟨rfl, rfl⟩) K
  · rw [decide_eq_false h0] at test
    obtain ⟨o19, o20, hb⟩ := root_blk (n := n) (S := S) L h0 s l e3 (some (.v (.bl (rt two k).isSome))) e6 e7 e8 e9 (some (.v (.int two.1))) (some (.v (.int two.2.1))) (some (.v (.int two.2.2))) e16 e17 e18 e19 e20 e21
    refine ⟨some (.v (.bl (rt two k).isSome)), some (.v (.int two.1)), some (.v (.int two.2.1)), some (.v (.int two.2.2)), o19, o20, fun ss r K => lapA0 L s l e3 e4 e5 e6 e7 e8 e9 e13 e14 e15 e16 e17 e18 e19 e20 e21 ss r ?_⟩
    exact ss_if (E' := _) (S' := _) test (fun _ => hb) (fun q => nomatch q) K
end
end A71

set_option linter.all false
set_option maxRecDepth 100000
set_option maxHeartbeats 4000000
namespace A71
open Py
section
variable {n : Nat} {E : Env} {S : Store}
theorem e_sl2 {a : Ex} {P Q R : Int} (h : Ev n a E S (t3 P Q R)) : Ev n (.sl a none (some (.cst (.int 2)))) E S (.tup [.int P, .int Q]) := by
  have h : ev G (CC n) a E S = some (.v (t3 P Q R), S) := h
  show ev G _ _ _ _ = _
  simp [ev, evO, gSl, gPart, h, rd, slP, sIx, cut]
theorem e_gt0 {a : Ex} {g : Int} (h : Ev n a E S (.int g)) : Ev n (.cmp .gt a (.cst (.int 0))) E S (.bl (decide (0 < g))) := e_cmp h ev_c rfl
end
section
variable {n : Nat} {S : Store} {one two : D} {k : Int}
theorem lst_c3 (d : D) [C3 d] : C3 (lst d) := by
  refine ⟨(inferInstance : B2 d.1), (inferInstance : B2 d.2.1), ?_⟩
  unfold lst
  simp only
  by_cases c : d.1 = 0 ∧ d.2.1 = 0
  · rw [if_pos c]
    infer_instance
  · rw [if_neg c]
    have gp := gc_pos c
    have := fmod_abs d.2.2 (show gc d.1 d.2.1 ≠ 0 by omega)
    exact ⟨Nat.lt_trans this (B2.h (i := gc d.1 d.2.1))⟩
theorem crs_led (one two : D) : jn (0, 0, crs two one) one = led one two := by
  unfold jn crs led
  refine Prod.ext (by simp only; omega) (Prod.ext (by simp only; omega) (by simp only; omega))
theorem lapC (L : Lp one two k) (s l e3 e5 e6 e7 e8 e9 e13 e14 e15 e16 e17 e18 e19 e20 e21 : Option EV) (ss : List Stm) (r : Option (Fl × Env × Store))
    (K : exs G (CC n) 5000 ss (E22 s l e3 (some (.v (tr (tms one k)))) e5 (some (.v (tr (led one two)))) (some (.v (.int (gc one.1 one.2.1)))) e8 e9 (some (.v (tr one))) (some (.v (tr two))) (some (.v (.int k))) e13 e14 e15 e16 e17 e18 e19 e20 e21) S = r) :
    exs G (CC n) 5000 (s8 :: s9 :: s10 :: s11 :: ss) (E22 s l e3 (some (.v (tr (tms one k)))) e5 e6 e7 e8 e9 (some (.v (tr one))) (some (.v (tr two))) (some (.v (.int k))) e13 e14 e15 e16 e17 e18 e19 e20 e21) S = r := by
  have Q := L.q
  haveI := Q.c1
  haveI := Q.c2
  haveI := Q.cf
  haveI := lst_c3 one
  have bx : one.1.natAbs < 18446744073709551616 := Nat.lt_trans L.x (by decide)
  have bY : one.2.1.natAbs < 18446744073709551616 := Nat.lt_trans L.y (by decide)
  haveI : C3 (0, 0, crs two one) := ⟨inferInstanceAs (B2 (0 : Int)), inferInstanceAs (B2 (0 : Int)), by
    haveI b1 : Bd one.1 20 := ⟨L.x⟩
    haveI b2 : Bd one.2.1 20 := ⟨L.y⟩
    haveI b4 : Bd two.1 20 := ⟨L.x2⟩
    haveI b5 : Bd two.2.1 20 := ⟨L.y2⟩
    exact (B2.of (by decide) : B2 (two.1 * one.2.1 - two.2.1 * one.1))⟩
  have hh := hNe (n := n) (S := S) (hf34 n one two) rfl rfl (good_int _) (a := .var 10) (b := .var 11) (E := E22 s l e3 (some (.v (tr (tms one k)))) e5 e6 e7 e8 e9 (some (.v (tr one))) (some (.v (tr two))) (some (.v (.int k))) e13 e14 e15 e16 e17 e18 e19 e20 e21) (ev_v rfl) (ev_v rfl)
  rw [Option.isSome_map] at hh
  refine ss_no (o2 (e_ne (k35 (d := one) (d2 := two) (ev_v rfl) (ev_v rfl)) hh rfl rfl) ?_) ?_
  · have := e_and2 (k35 (d := one) (d2 := two) (n := n) (S := S) (a := .var 10) (b := .var 11) (E := E22 s l e3 (some (.v (tr (tms one k)))) e5 e6 e7 e8 e9 (some (.v (tr one))) (some (.v (tr two))) (some (.v (.int k))) e13 e14 e15 e16 e17 e18 e19 e20 e21) (ev_v rfl) (ev_v rfl)) (e_no (k43 (d := one) (d2 := two) (a := .var 10) (b := .var 11) (ev_v rfl) (ev_v rfl)))
    have z : ((tmO one two).isSome && !decide (crs one two = 0)) = false := by
      cases q : tmO one two with
      | none => rfl
      | some m =>
        have := tmO_comm q
        have : crs one two = 0 := this
        rw [this]
        rfl
    rw [z] at this
    exact this
  refine ss_set (k28 (d := one) (d2 := two) (ev_v rfl) (ev_v rfl)) ?_
  refine ss_set (c2 (m78 (n+19) one.1 one.2.1) rfl rfl rfl (e_ix (ev_v rfl) (ix0 _ _ _) rfl) (e_ix (ev_v rfl) (ix1 _ _ _) rfl)) ?_
  refine ss_no (o5 (e_noT ?_) (e_ne (x := tr (lst one)) (k39 (d := one) (ev_v rfl)) ?_ rfl rfl) (e_noT ?_) (e_ne (x := tr (led one two)) ?_ (ev_v rfl) rfl rfl) (e_noT ?_)) K
  · rw [← kin_led one two]
    exact k38 (d := one) (d2 := led one two) (ev_v rfl) (ev_v rfl)
  · rw [← lst_led one two]
    exact k39 (d := led one two) (ev_v rfl)
  · rw [← kin_lst one]
    exact k38 (d := lst one) (d2 := one) (k39 (d := one) (ev_v rfl)) (ev_v rfl)
  · rw [← crs_led one two]
    exact k19 (d := (0, 0, crs two one)) (d2 := one) (k26 (d := two) (d2 := one) (ev_v rfl) (ev_v rfl)) (ev_v rfl)
  · have := k42 (n := n) (S := S) (d := one) (d2 := led one two) (d3 := two) (a := .var 10) (b := .var 6) (c := .var 11) bx bY (E := E22 s l e3 (some (.v (tr (tms one k)))) e5 (some (.v (tr (led one two)))) (some (.v (.int (gc one.1 one.2.1)))) e8 e9 (some (.v (tr one))) (some (.v (tr two))) (some (.v (.int k))) e13 e14 e15 e16 e17 e18 e19 e20 e21) (ev_v rfl) (ev_v rfl) (ev_v rfl)
    rw [eq_tr, decide_eq_true rfl] at this
    exact this
def oth (one : D) (r : Int) : D := (one.1, one.2.1, one.2.2 + r)
theorem kin_oth (one : D) (r : Int) : kin one (oth one r) = if gc one.1 one.2.1 = 0 then decide (one.2.2 + r - one.2.2 = 0) else decide ((one.2.2 + r - one.2.2).fmod (gc one.1 one.2.1) = 0) := by
  unfold kin kinB oth
  simp only [and_self, decide_true, Bool.true_and]
/-- whether it is kin -/
theorem e_kin (r : Int) [C3 one] [C3 (oth one r)] {E : Env} (h7 : E[7]? = some (some (.v (.int (gc one.1 one.2.1))))) (h8 : E[8]? = some (some (.v (tr (oth one r))))) (h10 : E[10]? = some (some (.v (tr one)))) :
    Ev n (.ife (.cmp .gt (.var 7) (.cst (.int 0))) (.cmp .eq (.bin .mod (.bin .sub (.ix (.var 8) (.cst (.int 2))) (.ix (.var 10) (.cst (.int 2)))) (.var 7)) (.cst (.int 0))) (.cmp .eq (.var 8) (.var 10))) E S (.bl (kin one (oth one r))) := by
  refine e_ife (e_gt0 (ev_v h7)) (fun t => ?_) fun t => ?_
  · have gp : 0 < gc one.1 one.2.1 := of_decide_eq_true t
    rw [kin_oth, if_neg (by omega)]
    exact e_eqI (e_mod (by omega) (e_sub (e_ix (ev_v h8) (ix2 _ _ _) rfl) (e_ix (ev_v h10) (ix2 _ _ _) rfl)) (ev_v h7)) ev_c
  · have gn : ¬ 0 < gc one.1 one.2.1 := of_decide_eq_false t
    have gz : gc one.1 one.2.1 = 0 := by
      have := gc_nn one.1 one.2.1
      omega
    rw [kin_oth, if_pos gz]
    refine e_cmp (ev_v h8) (ev_v h10) ?_
    rw [cmp_eq]
    congr 1
    congr 1
    exact propext ⟨fun h => by
      have := congrArg (fun d : D => d.2.2) h
      have : one.2.2 + r = one.2.2 := this
      omega, fun h => Prod.ext rfl (Prod.ext rfl (show one.2.2 + r = one.2.2 by omega))⟩
end
end A71

set_option linter.all false
set_option maxRecDepth 100000
set_option maxHeartbeats 4000000
namespace A71
open Py
theorem Tin.mono {t : Tin} {j k : Nat} (h : Tin.Ok j t) (hk : j ≤ k) : Tin.Ok k t := ⟨h.b0, h.b1, h.c0, by have := h.c1; omega⟩
theorem room_noR {x y : Int} {R : PV} {ms : List D} (h : Room x y R ms) : toR R = .v R := toR_noC (noC_room h)
theorem room_pos {x y : Int} {R : PV} {ms : List D} (h : Room x y R ms) : 0 < ms.length ∧ ms.length < 2 ^ 60 := by cases h <;> exact ⟨by simp, by simp⟩
theorem hf41 (n : Nat) (one o : D) [C3 one] [C3 o] (P Q : Int) (b : Bool) (hb : kin one o = b) (hv : b = true → ∀ n, fv (n+6) 41 [tr one, tr o] = some (.v (t3 P Q 0))) : fv (n + 20) (41 + far2) [tr one, tr o] = some (match (if b = true then some (t3 P Q 0) else none) with | some y => .v y | none => .own (.lst heardV)) := by
  cases b with
  | true => exact heard_some (hv rfl (n+13))
  | false => exact h41n (n+13) one.1 one.2.1 one.2.2 o.1 o.2.1 o.2.2 hb
section
variable {n : Nat} {one two : D} {k : Int}
theorem oth_bd (L : Lp one two k) {r : Int} (hr : -9 ≤ r ∧ r ≤ 9) : C3 (oth one r) := by
  have Q := L.q
  haveI := Q.c1
  exact ⟨(inferInstance : B2 one.1), (inferInstance : B2 one.2.1), ⟨by
    have := L.z
    show (one.2.2 + r).natAbs < _
    have : (2 : Nat) ^ 20 + 9 < 2 ^ 200 := by decide
    omega⟩⟩
/-- the block of what is kin -/
theorem kin_blk (L : Lp one two k) {r : Int} (hr : -9 ≤ r ∧ r ≤ 9) (hk : kin one (oth one r) = true) (P Q : Int) (h41 : ∀ n, fv (n+6) 41 [tr one, tr (oth one r)] = some (.v (t3 P Q 0))) (lin : P * one.2.1 - Q * one.1 = r) (p0 : one.1 = 0 ∧ one.2.1 = 0 → P = 0 ∧ Q = 0)
    (p1 : ¬ (one.1 = 0 ∧ one.2.1 = 0) → ∀ m, fv (m+2) 40 [.int one.1, .int one.2.1, .int (one.2.2 + r - one.2.2)] = some (.v (.tup [.int P, .int Q]))) (t : Tin) (c : Nat) (ok : Tin.Ok c t) (hc : c < 2 ^ 39) (s l e3 e4 e5 e6 e7 e9 e13 e14 e15 e16 e17 e18 e19 e20 e21 : Option EV) :
    ∃ o16 o17 o18 o20 o21 t', Tin.Ok (c + 1) t' ∧ exs G (CC n) 5000 b15 (E22 s l e3 e4 e5 e6 e7 (some (.v (tr (oth one r)))) e9 (some (.v (tr one))) (some (.v (tr two))) (some (.v (.int k))) e13 e14 e15 e16 e17 e18 e19 e20 e21) [.live t.pv] = some (.next, E22 s l e3 e4 e5 e6 e7 (some (.v (tr (oth one r)))) e9 (some (.v (tr one))) (some (.v (tr two))) (some (.v (.int k))) e13 e14 e15 o16 o17 o18 e19 o20 o21, [.live t'.pv]) := by
  have QQ := L.q
  haveI := QQ.c1
  haveI := QQ.c2
  haveI := oth_bd L hr
  have lx := L.x
  have ly := L.y
  have lz := L.z
  have h20 : (2 : Nat) ^ 20 < 18446744073709551616 := by decide
  have bx : one.1.natAbs < 18446744073709551616 := by omega
  have bY : one.2.1.natAbs < 18446744073709551616 := by omega
  obtain ⟨R, ms, hR, h54⟩ := m54 one.1 one.2.1 one.2.2 (by omega) (by omega)
  have hk' : kinB one.1 one.2.1 one.2.2 one.1 one.2.1 (one.2.2 + r) = true := hk
  haveI : B2 (one.2.2 + r) := (inferInstance : B2 (oth one r).2.2)
  have eL : led one (P, Q, 0) = oth one r := by
    unfold led oth
    refine Prod.ext rfl (Prod.ext rfl ?_)
    show one.2.2 + (P * one.2.1 - Q * one.1) = one.2.2 + r
    rw [lin]
  obtain ⟨m, t', d1, hm, ok'⟩ := of_ok (G := G) (T := fs) (w := 5000) (n := n + 18) (i := 76) (j := 74) (a := 0) (S := [.live t.pv]) (xs := ms.map tr) rfl rfl rfl ok (by omega) (by rw [List.length_map]; exact (room_pos hR).1) (by rw [List.length_map]; exact (room_pos hR).2) (fun x hx => by
    obtain ⟨d, _, rfl⟩ := List.mem_map.mp hx
    rfl)
  obtain ⟨M, hM, rfl⟩ := List.mem_map.mp hm
  have d1 : call G fs 5000 (n + 20) 76 [.r 0, .n (.lst (ms.map tr))] [.live t.pv] = some (.v (tr M), [.live t'.pv]) := d1
  obtain ⟨r1, r2, r3, r4⟩ := room_in hR M hM
  haveI : C3 M := c3of (a := 63) r2 r3 r4 (by decide)
  have eM : led one M = one := by
    unfold led
    refine Prod.ext rfl (Prod.ext rfl ?_)
    show one.2.2 + (M.1 * one.2.1 - M.2.1 * one.1) = one.2.2
    omega
  have ePM : led one (P + M.1, Q + M.2.1, 0 + M.2.2 + P * M.2.1) = oth one r := by
    unfold led oth
    refine Prod.ext rfl (Prod.ext rfl ?_)
    show one.2.2 + ((P + M.1) * one.2.1 - (Q + M.2.1) * one.1) = one.2.2 + r
    rw [Int.add_mul, Int.add_mul]
    omega
  refine ⟨some (.v (t3 P Q 0)), some (.v (.tup [.int P, .int Q])), some (.v (tr M)), some (.v (t3 P Q 0)), some (.v R), t', ok', ?_⟩
  refine ss_set (c2 (h41 (n+14)) rfl rfl rfl (ev_v rfl) (ev_v rfl)) ?_
  have c66 : noC (.tup [t3 P Q 0, R]) = true := by
    have := noC_room hR
    simp [noC, noCs, this]
  refine ss_t2 (c2 (m66 (n+12) one.1 one.2.1 one.2.2 (one.2.2 + r) P Q hR hk' (h41 (n+13)) (h54 (n+12))) rfl rfl c66 (ev_v rfl) (ev_v rfl)) rfl (room_noR hR) ?_
  refine ss_no (o5 (e_ne (x := tr (oth one r)) ?_ (ev_v rfl) rfl rfl) (e_ne (x := .int 0) (e_ix (ev_v rfl) (ix2 _ _ _) rfl) ev_c rfl rfl) (e_ne (ev_v (x := t3 P Q 0) rfl) (ev_v rfl) rfl rfl) (e_noT ?_) (e_ne (x := tr (oth one r)) ?_ (ev_v rfl) rfl rfl)) ?_
  · rw [← eL]
    exact k28r (d := one) (d3 := (P, Q, 0)) bx bY (ev_v rfl) (ev_v rfl)
  · have := k42 (n := n) (S := [.live t.pv]) (d := one) (d2 := oth one r) (d3 := (P, Q, 0)) (a := .var 10) (b := .var 8) (c := .var 16) bx bY (E := E22 s l e3 e4 e5 e6 e7 (some (.v (tr (oth one r)))) e9 (some (.v (tr one))) (some (.v (tr two))) (some (.v (.int k))) e13 e14 e15 (some (.v (t3 P Q 0))) e17 e18 e19 (some (.v (t3 P Q 0))) (some (.v R))) (ev_v rfl) (ev_v rfl) (ev_v rfl)
    rw [eL, eq_tr, decide_eq_true rfl] at this
    exact this
  · rw [← eL]
    exact c2 (m71 (n+12) one.1 one.2.1 one.2.2 P Q bx bY) rfl rfl rfl (c1 (m72 (n+14) P Q) rfl rfl (ev_v rfl)) (ev_v rfl)
  haveI : B2 (one.2.2 + r - one.2.2) := ⟨by
    have : (9 : Nat) < 2 ^ 200 := by decide
    omega⟩
  have hd : (if gc one.1 one.2.1 = 0 then decide (one.2.2 + r - one.2.2 = 0) else decide ((one.2.2 + r - one.2.2).fmod (gc one.1 one.2.1) = 0)) = true := by
    rw [← kin_oth]
    exact hk
  refine ss_set (c2 (m44 one.1 one.2.1 one.2.2 (one.2.2 + r - one.2.2) P Q hd p0 p1 (n+14)) rfl rfl rfl (ev_v rfl) (e_sub (e_ix (ev_v rfl) (ix2 _ _ _) rfl) (e_ix (ev_v rfl) (ix2 _ _ _) rfl))) ?_
  refine ss_no (o2 (e_ne (ev_v (x := .tup [.int P, .int Q]) rfl) (e_sl2 (ev_v rfl)) rfl rfl) (e_noT (c2 (m84 hR (n+17)) (noC_room hR) rfl rfl (ev_v rfl) (e_tup (es1 ev_c (es1 ev_c (es1 ev_c es0))) (show 3 ≤ line by decide))))) ?_
  have e85 : ∀ {E : Env} {S : Store}, E[21]? = some (some (.v R)) → ev G (CC n) (.call 85 [.var 21]) E S = some (.n (.lst (ms.map tr)), S) := fun {E S} h => c1o (m85 hR (n+19)) (noC_room hR) (by
    have key : ∀ l : List D, noCs (l.map tr) = true := fun l => by
      induction l with
      | nil => rfl
      | cons a l ih => simp [noCs, noC, ih]
    exact key ms) (ev_v h)
  have st : ex G (CC n) 5000 (.set 18 (.callS 76 [.var 1, .call 85 [.var 21]])) (E22 s l e3 e4 e5 e6 e7 (some (.v (tr (oth one r)))) e9 (some (.v (tr one))) (some (.v (tr two))) (some (.v (.int k))) e13 e14 e15 (some (.v (t3 P Q 0))) (some (.v (.tup [.int P, .int Q]))) e18 e19 (some (.v (t3 P Q 0))) (some (.v R))) [.live t.pv] = some (.next, E22 s l e3 e4 e5 e6 e7 (some (.v (tr (oth one r)))) e9 (some (.v (tr one))) (some (.v (tr two))) (some (.v (.int k))) e13 e14 e15 (some (.v (t3 P Q 0))) (some (.v (.tup [.int P, .int Q]))) (some (.v (tr M))) e19 (some (.v (t3 P Q 0))) (some (.v R)), [.live t'.pv]) := by
    have h85 := e85 (E := E22 s l e3 e4 e5 e6 e7 (some (.v (tr (oth one r)))) e9 (some (.v (tr one))) (some (.v (tr two))) (some (.v (.int k))) e13 e14 e15 (some (.v (t3 P Q 0))) (some (.v (.tup [.int P, .int Q]))) e18 e19 (some (.v (t3 P Q 0))) (some (.v R))) (S := [.live t.pv]) rfl
    have hs : ∀ {a : Ex} {E : Env} {S S' : Store} {x : PV} {f : Nat} {y : PV}, E[1]? = some (some (.r 0)) → ev G (CC n) a E S = some (.n y, S) → call G fs 5000 (n + 20) f [.r 0, .n y] S = some (.v x, S') → ev G (CC n) (.callS f [.var 1, a]) E S = some (.v x, S') := fun {a E S S' x f y} h1 h2 h3 => by
      simp only [ev, evs, gCallS, gCons, gNil, gVar, h1, h2, h3, ofR]
    have := hs rfl h85 d1
    have hset : ∀ {a : Ex} {E : Env} {S S' : Store} {x : PV}, ev G (CC n) a E S = some (.v x, S') → ex G (CC n) 5000 (.set 18 a) E S = some (.next, E.set 18 (some (.v x)), S') := fun h => by
      simp only [ex, hSet, h, toE]
    exact hset this
  refine exs_next st ?_
  refine ss_no (o2 (e_ne (x := tr one) ?_ (ev_v rfl) rfl rfl) (e_ne (x := tr (oth one r)) ?_ (ev_v rfl) rfl rfl)) rfl
  · have := k28 (n := n) (S := [.live t'.pv]) (d := one) (d2 := M) (a := .var 10) (b := .var 18) (E := E22 s l e3 e4 e5 e6 e7 (some (.v (tr (oth one r)))) e9 (some (.v (tr one))) (some (.v (tr two))) (some (.v (.int k))) e13 e14 e15 (some (.v (t3 P Q 0))) (some (.v (.tup [.int P, .int Q]))) (some (.v (tr M))) e19 (some (.v (t3 P Q 0))) (some (.v R))) (ev_v rfl) (ev_v rfl)
    rw [eM] at this
    exact this
  · rw [← ePM]
    exact k28r (d := one) (d3 := (P + M.1, Q + M.2.1, 0 + M.2.2 + P * M.2.1)) bx bY (ev_v rfl) (c2 (m19r (n+14) M.1 M.2.1 M.2.2 P Q (by omega)) rfl rfl rfl (ev_v rfl) (ev_v rfl))
end
end A71

set_option linter.all false
set_option maxRecDepth 100000
set_option maxHeartbeats 4000000
namespace A71
open Py
section
variable {n : Nat} {one two : D} {k : Int}
theorem jn_und (one two : D) : jn (und one) two = (dX one.1 two.1, dX one.2.1 two.2.1, dZ one.1 one.2.1 one.2.2 two.2.1 two.2.2) := rfl
theorem half_way (one two : D) : half (dX one.1 (jn one (tms two 2)).1, dX one.2.1 (jn one (tms two 2)).2.1, dZ one.1 one.2.1 one.2.2 (jn one (tms two 2)).2.1 (jn one (tms two 2)).2.2) = some two := by
  have e : (dX one.1 (jn one (tms two 2)).1, dX one.2.1 (jn one (tms two 2)).2.1, dZ one.1 one.2.1 one.2.2 (jn one (tms two 2)).2.1 (jn one (tms two 2)).2.2) = tms two 2 := by
    unfold dX dZ jn tms
    refine Prod.ext (by simp only; omega) (Prod.ext (by simp only; omega) ?_)
    simp only
    grind
  rw [e]
  exact half_tms two
/-- the last statements -/
theorem lapZ (L : Lp one two k) (S : Store) (s l e3 e5 e6 e7 e8 e9 e13 e14 e15 e16 e17 e18 e19 e20 e21 : Option EV) :
    exs G (CC n) 5000 [s16, s17] (E22 s l e3 (some (.v (tr (tms one k)))) e5 e6 e7 e8 e9 (some (.v (tr one))) (some (.v (tr two))) (some (.v (.int k))) e13 e14 e15 e16 e17 e18 e19 e20 e21) S = some (.next, E22 s l e3 (some (.v (tr (tms one k)))) e5 e6 e7 e8 e9 (some (.v (tr one))) (some (.v (tr two))) (some (.v (.int k))) e13 e14 e15 e16 e17 e18 e19 e20 e21, S) := by
  have Q := L.q
  haveI := Q.c1
  haveI := Q.c2
  haveI := Q.cu
  haveI := Q.c22
  haveI : B2 (2 : Int) := B2.of (a := 2) (by decide)
  obtain ⟨q1, q2, q3⟩ := tms_bd L.x2 L.y2 L.z2 (show Bd (2 : Int) 3 from ⟨by decide⟩)
  haveI : C3 (jn one (tms two 2)) := by
    haveI b1 : Bd one.1 20 := ⟨L.x⟩
    haveI b2 : Bd one.2.1 20 := ⟨L.y⟩
    haveI b3 : Bd one.2.2 20 := ⟨L.z⟩
    haveI b4 : Bd (tms two 2).1 23 := ⟨q1⟩
    haveI b5 : Bd (tms two 2).2.1 23 := ⟨q2⟩
    haveI b6 : Bd (tms two 2).2.2 50 := ⟨q3⟩
    exact ⟨(B2.of (by decide) : B2 (one.1 + (tms two 2).1)), (B2.of (by decide) : B2 (one.2.1 + (tms two 2).2.1)), (B2.of (by decide) : B2 (one.2.2 + (tms two 2).2.2 + one.1 * (tms two 2).2.1))⟩
  haveI : C3 (jn (und one) two) := by
    haveI b1 : Bd one.1 20 := ⟨L.x⟩
    haveI b2 : Bd one.2.1 20 := ⟨L.y⟩
    haveI b3 : Bd one.2.2 20 := ⟨L.z⟩
    haveI b4 : Bd two.1 20 := ⟨L.x2⟩
    haveI b5 : Bd two.2.1 20 := ⟨L.y2⟩
    haveI b6 : Bd two.2.2 20 := ⟨L.z2⟩
    exact ⟨(B2.of (by decide) : B2 (-one.1 + two.1)), (B2.of (by decide) : B2 (-one.2.1 + two.2.1)), (B2.of (by decide) : B2 (one.1 * one.2.1 - one.2.2 + two.2.2 + -one.1 * two.2.1))⟩
  refine ss_no (o2 (e_ne (x := tr two) (k67 (d := one) (d2 := jn one (tms two 2)) (half_way one two) (ev_v rfl) (k19 (d := one) (d2 := tms two 2) (ev_v rfl) (k80 (d := two) (k := 2) (ev_v rfl) ev_c))) (ev_v rfl) rfl rfl) ?_) ?_
  · have hh := hEq (n := n) (S := S) (hf67 n one two) rfl rfl (good_tr _) (a := .var 10) (b := .var 11) (E := E22 s l e3 (some (.v (tr (tms one k)))) e5 e6 e7 e8 e9 (some (.v (tr one))) (some (.v (tr two))) (some (.v (.int k))) e13 e14 e15 e16 e17 e18 e19 e20 e21) (ev_v rfl) (ev_v rfl)
    refine e_cmp hh (k30 (d := jn (und one) two) (k := 2) (by decide) (k19 (d := und one) (d2 := two) (k21 (d := one) (ev_v rfl)) (ev_v rfl)) ev_c) ?_
    rw [← half_rt, jn_und, cmp_beq]
    congr 1
    cases half (dX one.1 two.1, dX one.2.1 two.2.1, dZ one.1 one.2.1 one.2.2 two.2.1 two.2.2) <;> rfl
  have z3 : Ev n (.tup [.cst (.int 0), .cst (.int 0), .cst (.int 0)]) (E22 s l e3 (some (.v (tr (tms one k)))) e5 e6 e7 e8 e9 (some (.v (tr one))) (some (.v (tr two))) (some (.v (.int k))) e13 e14 e15 e16 e17 e18 e19 e20 e21) S (t3 0 0 0) := e_tup (es1 ev_c (es1 ev_c (es1 ev_c es0))) (show 3 ≤ line by decide)
  have t2 : Ev n (.tup [.cst (.str [108, 105, 110, 101]), .cst (.str [97, 108, 108])]) (E22 s l e3 (some (.v (tr (tms one k)))) e5 e6 e7 e8 e9 (some (.v (tr one))) (some (.v (tr two))) (some (.v (.int k))) e13 e14 e15 e16 e17 e18 e19 e20 e21) S (.tup [.str [108, 105, 110, 101], .str [97, 108, 108]]) := e_tup (es1 ev_c (es1 ev_c es0)) (show 2 ≤ line by decide)
  have eq0 : Ev n (.cmp .eq (.var 10) (.tup [.cst (.int 0), .cst (.int 0), .cst (.int 0)])) (E22 s l e3 (some (.v (tr (tms one k)))) e5 e6 e7 e8 e9 (some (.v (tr one))) (some (.v (tr two))) (some (.v (.int k))) e13 e14 e15 e16 e17 e18 e19 e20 e21) S (.bl (decide (one = (0, 0, 0)))) := e_cmp (ev_v rfl) z3 (cmp_eq one (0, 0, 0))
  rcases pf L (n+14) with ⟨q, h63⟩ | ⟨u, v, cu, cv, nz, h63⟩
  · refine ss_no (o2 (e_cmp (x := .str [97, 108, 108]) (e_ix (c3 h63 rfl rfl rfl rfl (ev_v rfl) z3 (ev_v rfl)) rfl rfl) t2 rfl) ?_) rfl
    subst q
    have h0 : fv (n + 20) 63 [t3 0 0 0, t3 0 0 0, t3 0 0 0] = some (.v (.tup [.str [97, 108, 108]])) := by rfl
    have h1 := e_ne (n := n) (S := S) (x := .tup [.str [97, 108, 108]]) (a := .call 63 [.var 10, .var 10, .var 10]) (b := .tup [.cst (.str [97, 108, 108])]) (E := E22 s l e3 (some (.v (tr (tms (0, 0, 0) k)))) e5 e6 e7 e8 e9 (some (.v (tr (0, 0, 0)))) (some (.v (tr two))) (some (.v (.int k))) e13 e14 e15 e16 e17 e18 e19 e20 e21) (c3 h0 rfl rfl rfl rfl (ev_v rfl) (ev_v rfl) (ev_v rfl)) (e_tup (es1 ev_c es0) (show 1 ≤ line by decide)) rfl rfl
    have := e_and2 eq0 h1
    rw [Bool.and_false] at this
    exact this
  · rw [decide_eq_false nz] at eq0
    have nC : noC (.tup [.str [108, 105, 110, 101], u, v]) = true := by simp [noC, noCs, cu.1, cv.1]
    refine ss_no (o2 (e_cmp (x := .str [108, 105, 110, 101]) (e_ix (c3 h63 rfl rfl rfl nC (ev_v rfl) z3 (ev_v rfl)) rfl rfl) t2 rfl) (e_and2f eq0)) rfl
/-- from the kin on -/
theorem lapK (L : Lp one two k) {r : Int} (hr : -9 ≤ r ∧ r ≤ 9) (t : Tin) (c : Nat) (ok : Tin.Ok c t) (hc : c < 2 ^ 39) (s l e3 e5 e6 e9 e13 e14 e15 e16 e17 e18 e19 e20 e21 : Option EV) :
    ∃ o9 o16 o17 o18 o20 o21 t', Tin.Ok (c + 1) t' ∧ exs G (CC n) 5000 [s13, s14, s15, s16, s17] (E22 s l e3 (some (.v (tr (tms one k)))) e5 e6 (some (.v (.int (gc one.1 one.2.1)))) (some (.v (tr (oth one r)))) e9 (some (.v (tr one))) (some (.v (tr two))) (some (.v (.int k))) e13 e14 e15 e16 e17 e18 e19 e20 e21) [.live t.pv] = some (.next, E22 s l e3 (some (.v (tr (tms one k)))) e5 e6 (some (.v (.int (gc one.1 one.2.1)))) (some (.v (tr (oth one r)))) o9 (some (.v (tr one))) (some (.v (tr two))) (some (.v (.int k))) e13 e14 e15 o16 o17 o18 e19 o20 o21, [.live t'.pv]) := by
  have QQ := L.q
  haveI := QQ.c1
  haveI := QQ.c2
  haveI := oth_bd L hr
  have lx := L.x
  have ly := L.y
  have lz := L.z
  have h20 : (2 : Nat) ^ 20 < 2 ^ 63 := by decide
  haveI : B2 (one.2.2 + r) := (inferInstance : B2 (oth one r).2.2)
  have s14_ok : ∀ (b : Bool) (P Q : Int), kin one (oth one r) = b → (b = true → ∀ n, fv (n+6) 41 [tr one, tr (oth one r)] = some (.v (t3 P Q 0))) → ∀ (ss : List Stm) (R : Option (Fl × Env × Store)), exs G (CC n) 5000 ss (E22 s l e3 (some (.v (tr (tms one k)))) e5 e6 (some (.v (.int (gc one.1 one.2.1)))) (some (.v (tr (oth one r)))) (some (.v (.bl b))) (some (.v (tr one))) (some (.v (tr two))) (some (.v (.int k))) e13 e14 e15 e16 e17 e18 e19 e20 e21) [.live t.pv] = R → exs G (CC n) 5000 (s13 :: s14 :: ss) (E22 s l e3 (some (.v (tr (tms one k)))) e5 e6 (some (.v (.int (gc one.1 one.2.1)))) (some (.v (tr (oth one r)))) e9 (some (.v (tr one))) (some (.v (tr two))) (some (.v (.int k))) e13 e14 e15 e16 e17 e18 e19 e20 e21) [.live t.pv] = R := fun b P Q hb h41 ss R K => by
    refine ss_set (x := .bl b) ?_ ?_
    · rw [← hb]
      exact e_kin r rfl rfl rfl
    have hh := hEq (n := n) (S := [.live t.pv]) (hf41 n one (oth one r) P Q b hb h41) rfl rfl (fun y hy => by
      cases b with
      | true => cases hy; exact ⟨rfl, rfl, rfl⟩
      | false => cases hy) (a := .var 10) (b := .var 8) (E := E22 s l e3 (some (.v (tr (tms one k)))) e5 e6 (some (.v (.int (gc one.1 one.2.1)))) (some (.v (tr (oth one r)))) (some (.v (.bl b))) (some (.v (tr one))) (some (.v (tr two))) (some (.v (.int k))) e13 e14 e15 e16 e17 e18 e19 e20 e21) (ev_v rfl) (ev_v rfl)
    refine ss_no (o3 (e_ne (x := .bl b) ?_ (ev_v rfl) rfl rfl) (e_cmp hh (ev_v (x := .bl b) rfl) ?_) (e_ne (x := .bl (kin one two)) (k38 (d := one) (d2 := two) (ev_v rfl) (ev_v rfl)) ?_ rfl rfl)) K
    · rw [← hb]
      exact k38 (d := one) (d2 := oth one r) (ev_v rfl) (ev_v rfl)
    · rw [cmp_beq]
      congr 1
      cases b <;> rfl
    · rw [kin_symm one two]
      exact k38 (d := two) (d2 := one) (ev_v rfl) (ev_v rfl)
  cases hk : kin one (oth one r) with
  | false =>
    refine ⟨some (.v (.bl false)), e16, e17, e18, e20, e21, t, Tin.mono ok (by omega), ?_⟩
    refine s14_ok false 0 0 hk (fun q => nomatch q) _ _ ?_
    exact ss_no (ev_v rfl) (lapZ L _ s l e3 e5 e6 _ _ _ e13 e14 e15 e16 e17 e18 e19 e20 e21)
  | true =>
    have hk' : kinB one.1 one.2.1 one.2.2 one.1 one.2.1 (one.2.2 + r) = true := hk
    obtain ⟨P, Q, h41, lin, p0, p1⟩ := m41 one.1 one.2.1 one.2.2 (one.2.2 + r) (by omega) (by omega) (by
      have : (9 : Nat) < 2 ^ 63 := by decide
      omega) hk'
    obtain ⟨o16, o17, o18, o20, o21, t', ok', hb⟩ := kin_blk (n := n) L hr hk P Q h41 (by omega) p0 p1 t c ok hc s l e3 (some (.v (tr (tms one k)))) e5 e6 (some (.v (.int (gc one.1 one.2.1)))) (some (.v (.bl true))) e13 e14 e15 e16 e17 e18 e19 e20 e21
    refine ⟨some (.v (.bl true)), o16, o17, o18, o20, o21, t', ok', ?_⟩
    refine s14_ok true P Q hk (fun _ => h41) _ _ ?_
    exact ss_if (E' := _) (S' := _) (ev_v (x := .bl true) rfl) (fun _ => hb) (fun q => nomatch q) (lapZ L _ s l e3 e5 e6 _ _ _ e13 e14 e15 o16 o17 o18 e19 o20 o21)
end
end A71

set_option linter.all false
set_option maxRecDepth 100000
set_option maxHeartbeats 4000000
namespace A71
open Py
theorem noCs_ints : ∀ ns : List Int, noCs (ns.map PV.int) = true
  | [] => rfl
  | a :: b => by simp [noCs, noC, noCs_ints b]
theorem forL_invN {step : PV → Env → Store → Option (Fl × Env × Store)} {P : Nat → Env → Store → Prop} {m : Nat} (h : ∀ i x E S, i < m → P i E S → ∃ E' S', step x E S = some (.next, E', S') ∧ P (i + 1) E' S') :
    ∀ (xs : List PV) (i : Nat) (E : Env) (S : Store), i + xs.length ≤ m → P i E S → ∃ E' S', forL step xs E S = some (.next, E', S') ∧ P (i + xs.length) E' S'
  | [], i, E, S, _, p => ⟨E, S, rfl, p⟩
  | x :: xs, i, E, S, hm, p => by
    have hm : i + (xs.length + 1) ≤ m := by simpa using hm
    obtain ⟨E1, S1, e1, p1⟩ := h i x E S (by omega) p
    obtain ⟨E2, S2, e2, p2⟩ := forL_invN h xs (i + 1) E1 S1 (by omega) p1
    refine ⟨E2, S2, ?_, ?_⟩
    · simp [forL, e1, e2]
    · rw [List.length_cons, show i + (xs.length + 1) = i + 1 + xs.length by omega]
      exact p2
/-- the draws of a lap -/
theorem draws (n : Nat) (t : Tin) (c : Nat) (ok : Tin.Ok c t) (hc : c < 2 ^ 38) (s l e3 e4 e5 e6 e7 e8 e9 e10 e11 e12 e13 e14 e15 e16 e17 e18 e19 e20 e21 : Option EV) :
    ∃ (top : PV) (one two : D) (k : Int) (t' : Tin), Lp one two k ∧ Tin.Ok (c + 14) t' ∧ ∀ (ss : List Stm) (r : Option (Fl × Env × Store)), exs G (CC n) 5000 ss (E22 s l (some (.v top)) e4 e5 e6 e7 e8 e9 (some (.v (tr one))) (some (.v (tr two))) (some (.v (.int k))) e13 e14 e15 e16 e17 e18 e19 e20 e21) [.live t'.pv] = r →
      exs G (CC n) 5000 (s0 :: s1 :: ss) (E22 s l e3 e4 e5 e6 e7 e8 e9 e10 e11 e12 e13 e14 e15 e16 e17 e18 e19 e20 e21) [.live t.pv] = r := by
  obtain ⟨top, t0, d0, ht, ok0⟩ := of_ok (G := G) (T := fs) (w := 5000) (n := n + 18) (i := 76) (j := 74) (a := 0) (S := [.live t.pv]) (xs := [.int 2, .int 6, .int 40, .int 1000000]) rfl rfl rfl ok (by omega) (by decide) (by decide) (fun x hx => by
    simp at hx
    rcases hx with rfl | rfl | rfl | rfl <;> rfl)
  have d0 : call G fs 5000 (n + 20) 76 [.r 0, .n (.lst [.int 2, .int 6, .int 40, .int 1000000])] [.live t.pv] = some (.v top, [.live t0.pv]) := d0
  obtain ⟨m, rfl, m0, m1⟩ : ∃ m : Int, top = .int m ∧ 0 ≤ m ∧ m ≤ 1000000 := by
    simp at ht
    rcases ht with rfl | rfl | rfl | rfl
    · exact ⟨2, rfl, by decide, by decide⟩
    · exact ⟨6, rfl, by decide, by decide⟩
    · exact ⟨40, rfl, by decide, by decide⟩
    · exact ⟨1000000, rfl, by decide, by decide⟩
  obtain ⟨x, y, z, t1, d1, bx, bY, bz, ok1⟩ := deed_ok (G := G) (T := fs) (w := 5000) (n := n + 17) (i := 82) (j := 81) (l := 74) (a := 0) (S := [.live t0.pv]) (m := m) rfl rfl rfl rfl ok0 (by omega) m0 (by omega)
  have d1 : call G fs 5000 (n + 20) 82 [.r 0, .v (.int m)] [.live t0.pv] = some (.v (t3 x y z), [.live t1.pv]) := d1
  obtain ⟨x2, y2, z2, t2, d2, bx2, by2, bz2, ok2⟩ := deed_ok (G := G) (T := fs) (w := 5000) (n := n + 17) (i := 82) (j := 81) (l := 74) (a := 0) (S := [.live t1.pv]) (m := m) rfl rfl rfl rfl ok1 (by omega) m0 (by omega)
  have d2 : call G fs 5000 (n + 20) 82 [.r 0, .v (.int m)] [.live t1.pv] = some (.v (t3 x2 y2 z2), [.live t2.pv]) := d2
  obtain ⟨q, t3', d3, q0, q1, ok3⟩ := take_ok (G := G) (T := fs) (w := 5000) (n := n + 19) (i := 74) (a := 0) (S := [.live t2.pv]) (m := 6) rfl rfl ok2 (by omega) (by decide) (by decide)
  have d3 : call G fs 5000 (n + 20) 74 [.r 0, .v (.int 6)] [.live t2.pv] = some (.v (.int q), [.live t3'.pv]) := d3
  have h20 : (2 : Nat) ^ 20 = 1048576 := by decide
  refine ⟨.int m, (x, y, z), (x2, y2, z2), 1 + q, t3', ⟨?_, ?_, ?_, ?_, ?_, ?_, by omega, by omega⟩, Tin.mono ok3 (by omega), fun ss r K => ?_⟩
  · show x.natAbs < _; omega
  · show y.natAbs < _; omega
  · show z.natAbs < _; omega
  · show x2.natAbs < _; omega
  · show y2.natAbs < _; omega
  · show z2.natAbs < _; omega
  refine exs_next (E1 := E22 s l (some (.v (.int m))) e4 e5 e6 e7 e8 e9 e10 e11 e12 e13 e14 e15 e16 e17 e18 e19 e20 e21) (S1 := [.live t0.pv]) ?_ ?_
  · have hp : (10 : Int) ^ (6 : Nat) = 1000000 := by decide
    have h4 : Nat.ble 4 line = true := by decide
    simp [ex, hSet, ev, evs, gCallS, gCons, gNil, gVar, gBin, gLst, mapO, rd, rdT, binop, binI, hp, h4, stor, d0, ofR, toE, CC]
  refine exs_next (E1 := E22 s l (some (.v (.int m))) e4 e5 e6 e7 e8 e9 (some (.v (t3 x y z))) (some (.v (t3 x2 y2 z2))) (some (.v (.int (1 + q)))) e13 e14 e15 e16 e17 e18 e19 e20 e21) (S1 := [.live t3'.pv]) ?_ K
  simp [ex, hPar, parE, ev, evs, gCallS, gCons, gNil, gVar, gBin, rd, rdT, binop, binI, d1, d2, d3, ofR, toE, CC]
/-- the draw of the other deed -/
theorem draw2 (n : Nat) {one two : D} {k : Int} (t : Tin) (c : Nat) (ok : Tin.Ok c t) (hc : c < 2 ^ 38) (s l e3 e4 e5 e6 e7 e8 e9 e11 e12 e13 e14 e15 e16 e17 e18 e19 e20 e21 : Option EV) :
    ∃ (r : Int) (t' : Tin), (-9 ≤ r ∧ r ≤ 9) ∧ Tin.Ok (c + 2) t' ∧ ∀ (ss : List Stm) (q : Option (Fl × Env × Store)), exs G (CC n) 5000 ss (E22 s l e3 e4 e5 e6 e7 (some (.v (tr (oth one r)))) e9 (some (.v (tr one))) e11 e12 e13 e14 e15 e16 e17 e18 e19 e20 e21) [.live t'.pv] = q →
      exs G (CC n) 5000 (s12 :: ss) (E22 s l e3 e4 e5 e6 e7 e8 e9 (some (.v (tr one))) e11 e12 e13 e14 e15 e16 e17 e18 e19 e20 e21) [.live t.pv] = q := by
  obtain ⟨r, t', d, r0, r1, ok'⟩ := whole_ok (G := G) (T := fs) (w := 5000) (n := n + 18) (i := 81) (j := 74) (a := 0) (S := [.live t.pv]) (m := 9) rfl rfl rfl ok (by omega) (by decide) (by decide)
  have d : call G fs 5000 (n + 20) 81 [.r 0, .v (.int 9)] [.live t.pv] = some (.v (.int r), [.live t'.pv]) := d
  refine ⟨r, t', ⟨r0, r1⟩, ok', fun ss q K => ?_⟩
  refine exs_next (E1 := E22 s l e3 e4 e5 e6 e7 (some (.v (tr (oth one r)))) e9 (some (.v (tr one))) e11 e12 e13 e14 e15 e16 e17 e18 e19 e20 e21) (S1 := [.live t'.pv]) ?_ K
  obtain ⟨x, y, z⟩ := one
  have h3 : Nat.ble 3 line = true := by decide
  have i2 : ixP (t3 x y z) (.int 2) = some (.int z) := rfl
  have i1 : ixP (t3 x y z) (.int 1) = some (.int y) := rfl
  have i0 : ixP (t3 x y z) (.int 0) = some (.int x) := rfl
  simp [ex, hSet, ev, evs, gTup, gIx, gCallS, gCons, gNil, gVar, gBin, rd, rdT, binop, binI, mapO, tr, i0, i1, i2, d, ofR, toE, toR, h3, stor, CC, oth]
section
variable (n : Nat)
theorem lap_all (s : Option EV) (i : Nat) (x : PV) (E : Env) (S : Store) (hi : i < 5)
    (h : ∃ l e3 e4 e5 e6 e7 e8 e9 e10 e11 e12 e13 e14 e15 e16 e17 e18 e19 e20 e21 t, E = E22 s l e3 e4 e5 e6 e7 e8 e9 e10 e11 e12 e13 e14 e15 e16 e17 e18 e19 e20 e21 ∧ S = [.live (Tin.pv t)] ∧ Tin.Ok (64 * i) t) :
    ∃ E' S', hTurn (.nm 2) (exs G (CC n) 5000 lapB) x E S = some (.next, E', S') ∧
      ∃ l e3 e4 e5 e6 e7 e8 e9 e10 e11 e12 e13 e14 e15 e16 e17 e18 e19 e20 e21 t, E' = E22 s l e3 e4 e5 e6 e7 e8 e9 e10 e11 e12 e13 e14 e15 e16 e17 e18 e19 e20 e21 ∧ S' = [.live (Tin.pv t)] ∧ Tin.Ok (64 * (i + 1)) t := by
  obtain ⟨l, e3, e4, e5, e6, e7, e8, e9, e10, e11, e12, e13, e14, e15, e16, e17, e18, e19, e20, e21, t, rfl, rfl, ok⟩ := h
  obtain ⟨top, one, two, k, t1, L, ok1, K1⟩ := draws n t _ ok (by omega) s (some (toR x)) e3 e4 e5 e6 e7 e8 e9 e10 e11 e12 e13 e14 e15 e16 e17 e18 e19 e20 e21
  obtain ⟨o5, o13, o14, o15, o19, o20, K2⟩ := lapA (n := n) (S := [.live t1.pv]) L s (some (toR x)) (some (.v top)) e4 e5 e6 e7 e8 e9 e13 e14 e15 e16 e17 e18 e19 e20 e21
  obtain ⟨r, t2, hr, ok2, K3⟩ := draw2 n (one := one) (two := two) (k := k) t1 _ ok1 (by omega) s (some (toR x)) (some (.v top)) (some (.v (tr (tms one k)))) o5 (some (.v (tr (led one two)))) (some (.v (.int (gc one.1 one.2.1)))) e8 e9 (some (.v (tr two))) (some (.v (.int k))) o13 o14 o15 e16 e17 e18 o19 o20 e21
  obtain ⟨p9, p16, p17, p18, p20, p21, t3, ok3, K4⟩ := lapK (n := n) L hr t2 _ ok2 (by omega) s (some (toR x)) (some (.v top)) o5 (some (.v (tr (led one two)))) e9 o13 o14 o15 e16 e17 e18 o19 o20 e21
  have F := K1 (s2 :: s3 :: s4 :: s5 :: s6 :: s7 :: s8 :: s9 :: s10 :: s11 :: s12 :: [s13, s14, s15, s16, s17]) _ (K2 (s8 :: s9 :: s10 :: s11 :: s12 :: [s13, s14, s15, s16, s17]) _ (lapC L s (some (toR x)) (some (.v top)) o5 e6 e7 e8 e9 o13 o14 o15 e16 e17 e18 o19 o20 e21 (s12 :: [s13, s14, s15, s16, s17]) _ (K3 [s13, s14, s15, s16, s17] _ K4)))
  exact ⟨_, _, F, _, _, _, _, _, _, _, _, _, _, _, _, _, _, _, _, _, _, _, _, t3, rfl, rfl, Tin.mono ok3 (by omega)⟩
end
theorem law_okN (ns : List Int) (hc : ∃ x S', call G fs 5000 23 75 [.v (.scr (ns.map .int)), .v (.int 1)] [] = some (.own (.lst [.int x]), S')) : ∃ S', call G fs 5000 24 87 [.v (.scr (ns.map .int))] [] = some (.v (.bl true), S') := by
  obtain ⟨x, S', hc⟩ := hc
  obtain ⟨t, hb, ok⟩ := box_ok (G := G) (T := fs) (w := 5000) (n := 22) (i := 73) (c := 9301071) (x := x) rfl (by decide) (by decide)
  have h39 : fnv G fs 5000 23 75 [.scr (ns.map .int), .int 1] = some (.own (.lst [.int x])) := by
    unfold fnv
    rw [show List.map EV.v [PV.scr (ns.map .int), .int 1] = [.v (.scr (ns.map .int)), .v (.int 1)] from rfl, hc]
    rfl
  have h37 : fnv G fs 5000 23 73 [.lst [.int x], .int 0] = some (.own t.pv) := by
    unfold fnv
    rw [show List.map EV.v [PV.lst [.int x], .int 0] = [.v (.lst [.int x]), .v (.int 0)] from rfl, hb]
    rfl
  have hno := noCs_ints ns
  rw [call_succ (F := f87) rfl]
  obtain ⟨E', S', hl, l, e3, e4, e5, e6, e7, e8, e9, e10, e11, e12, e13, e14, e15, e16, e17, e18, e19, e20, e21, t', rfl, rfl, okl⟩ := forL_invN (P := fun i E S => ∃ l e3 e4 e5 e6 e7 e8 e9 e10 e11 e12 e13 e14 e15 e16 e17 e18 e19 e20 e21 t, E = E22 (some (.v (.scr (ns.map .int)))) l e3 e4 e5 e6 e7 e8 e9 e10 e11 e12 e13 e14 e15 e16 e17 e18 e19 e20 e21 ∧ S = [.live (Tin.pv t)] ∧ Tin.Ok (64 * i) t) (m := 5)
    (fun i x E S hi p => lap_all 3 (some (.v (.scr (ns.map .int)))) i x E S hi p) [.int 0, .int 1, .int 2, .int 3, .int 4] 0 (E22 (some (.v (.scr (ns.map .int)))) none none none none none none none none none none none none none none none none none none none none) [.live t.pv] (by decide) ⟨none, none, none, none, none, none, none, none, none, none, none, none, none, none, none, none, none, none, none, none, t, rfl, rfl, ok⟩
  refine ⟨[.live t'.pv], ?_⟩
  have e0 : ex G (call G fs 5000 23) 5000 (.set 1 (.mk (.call 73 [.call 75 [.var 0, .cst (.int 1)], .cst (.int 0)]))) [some (.v (.scr (ns.map .int))), none, none, none, none, none, none, none, none, none, none, none, none, none, none, none, none, none, none, none, none, none] [] = some (.next, E22 (some (.v (.scr (ns.map .int)))) none none none none none none none none none none none none none none none none none none none none, [.live t.pv]) := by
    simp (decide := true) [run, exs, ex, ev, evs, evB, evO, evC, evI, hCons, hNil, hRet, hSet, hTset, hPar, parE, hIfe, hExpr, asg, asgs, gTup, gLst, gBin, gIx, gVar, gGlo, isCon, gNeg, gNo, gCmp, gCmp2, gIfe, gAnd, gOr, gCall, gBi, gIsi, isT, isCel, gSl, gPart, ixP, pyIx, gCons, gNil, rd, rdT, truth, binop, binI, cmpop, cmpI, eqOk, dep, deps, eqP, eqPs, biF, mapO, stor, toR, toE, fin, line, noCs, noC, noLr, noL, noLs, lent, isR, noCr, ofR, callP_fnv, seqOf, intsOf, blsOf, minI, maxI, zipP, zipSeq, gMk, h39, h37, hno, Tin.pv]
  have e1 : ex G (call G fs 5000 23) 5000 (.forr (.nm 2) (.rng [.cst (.int 5)]) lapB) (E22 (some (.v (.scr (ns.map .int)))) none none none none none none none none none none none none none none none none none none none none) [.live t.pv] = some (.next, E22 (some (.v (.scr (ns.map .int)))) l e3 e4 e5 e6 e7 e8 e9 e10 e11 e12 e13 e14 e15 e16 e17 e18 e19 e20 e21, [.live t'.pv]) := by
    have hr : evI G (call G fs 5000 23) (.rng [.cst (.int 5)]) (E22 (some (.v (.scr (ns.map .int)))) none none none none none none none none none none none none none none none none none none none none) [.live t.pv] = some ([.int 0, .int 1, .int 2, .int 3, .int 4], .v .non, [.live t.pv]) := rfl
    simp only [ex, hFor, hr, lock, unlock, hl]
  have e2 : exs G (call G fs 5000 23) 5000 f87.body ([.v (.scr (ns.map .int))].map (fun v => some (toE v)) ++ List.replicate (f87.nn - f87.np) none) [] = some (.ret (.v (.bl true)), E22 (some (.v (.scr (ns.map .int)))) l e3 e4 e5 e6 e7 e8 e9 e10 e11 e12 e13 e14 e15 e16 e17 e18 e19 e20 e21, [.live t'.pv]) := by
    show exs G (call G fs 5000 23) 5000 [_, .forr (.nm 2) (.rng [.cst (.int 5)]) lapB, _] [some (.v (.scr (ns.map .int))), none, none, none, none, none, none, none, none, none, none, none, none, none, none, none, none, none, none, none, none, none] [] = _
    exact exs_next e0 (exs_next e1 rfl)
  unfold run
  rw [e2]
  rfl
end A71

set_option Elab.async false
set_option linter.all false
set_option maxRecDepth 100000
set_option maxHeartbeats 0
open PySem PySem.W PySem.Calls PyProof.Rows
theorem A71.chk : Py.chkM A71.T A71.ds A71.G = true := by decide +kernel
theorem A71.hr : Py.HrdOk A71.T A71.ds := by
  intro x hx
  have hx : some ("_law_heard" : Str) = some x := hx
  cases hx
  refine ⟨86, A71.d86, rfl, rfl, ⟨rfl, ⟨rfl, rfl, rfl, by decide, rfl, fun x hx => .inl ?_, fun y hy => ?_⟩, fun x hx => ?_, fun x hx => ?_, ⟨_, _, _, _, _, _, _, _, _, _, _, _, _, _, _, _, _, _, _, _, _, _, _, _, _, _, _, _, _, _, _, _, _, _, _, _, _, rfl⟩⟩, rfl, by decide, by decide⟩
  · revert x; decide
  · revert y; decide
  · revert x; decide
  · revert x; decide
theorem A71.law_ok (ns : List Int) (_ : ns.length ≤ 63) : ∃ S', Py.call A71.G (A71.ds.map Py.Dfn.fn) 5000 24 87 [.v (.scr (ns.map .int))] [] = some (.v (.bl true), S') := by
  obtain ⟨x, S', e⟩ := Py.cells_ok A71.G (Py.call A71.G A71.fs 5000 22) 5000 ns []
  exact A71.law_okN ns ⟨x, S', e⟩
theorem PySem.Challenge.cw_arearoutes_k71_across_roots_kin_and_powe_holds : PySem.Challenge.rw_arearoutes_k71_across_roots_kin_and_powe.Holds := by
  w_on; o_law
  o_head (Py.hkP A71.T A71.ds A71.G)
  case hw => w_witness2
  case hc =>
    refine L2.walk_ofW (l := PySem.Challenge.rw_arearoutes_k71_across_roots_kin_and_powe) (n := 63) (k := 24) (x := "script") (CX := fun w => L2.CX (PySem.Challenge.rw_arearoutes_k71_across_roots_kin_and_powe).prog w) rfl (by decide) (by kernel_rfl) ⟨rfl, by decide, by decide⟩ ?F ?cx
    case cx => intro w H s e s' z; first | exact z | (unfold L2.CX at z; simp at z) | (unfold L2.CX at z; exact z.elim)
    case F =>
      intro w mg fa h Y G hmg0
      have hmg : mg ("law" : PySem.Str) = some (.ref fa) := hmg0
      exact Py.ends (T := A71.T) (ds := A71.ds) (G := A71.G) (i := 87) (d := A71.d87) A71.hr A71.chk rfl rfl A71.law_ok Y G hmg
