import PyProof.Rows.All
import Wide.All
import OpenK.AllK
import Wide.FinOn
import HandS.ForMost
import HandS.Deep
import HandS.Style
import HandS.Flow
import HandS.TupSets
import HandS.DictComp
import HandS.DictTup
import HandS.Defaults
import HandS.IsInst
import HandS.OwnEq
import HandS.Conv
import HandS.Codes
import HandS.TupLe
import HandS.TupAny
import HandS.TupMul
import HandS.SetFor
import HandS.RaiseMore
import HandS.Exc
import HandS.ExcField
import HandS.Zip
import KE.GoesMore
import KE.GoesEnum
import KE.GoesZip
import HandS.SetBool
import HandS.Head0
import HandS.HeadHook1
import HandS.HeadHook2
import PySem.Challenge.RW_onceitwas_k24_whole_houses_made_for_told
import HandS.SlotsOwn
import HandS.SortInts
import KE.DataMinMax
import KE.KDictDisplayH
import PyProof.ReprReads
import HandS.Walk
import HandS.ExcSuper
import KE.KSuper
import HandS.WordsExc
import HandS.TryOnly
import KE.KIntText
import HandS.Ends
import HandS.HeadEnd
import HandS.HeadHook3
import HandS.HeadHook4
import HandS.Head1
import HandS.Head2
set_option Elab.async false
set_option linter.all false
set_option maxRecDepth 100000
set_option maxHeartbeats 4000000
/-! Own rules, first part: loops over lists or tuples alike, enumerate and zip of them. -/
namespace K24
open PySem PySem.Spec PyProof.Rows L2
/-- a list or a tuple -/
inductive Kd where
  | L | T
def Sq (K : PySem.W.Frag) (H : Hp) (a : Addr) (xs : List V) : Kd → Prop
  | .L => SqL K H a xs
  | .T => SqT K H a xs
def ItK (h : Heap) (it a : Addr) (i : Nat) : Kd → Prop
  | .L => h.IsListIter it a i
  | .T => h.IsTupleIter it a i
def IsK (h : Heap) (a : Addr) (its : Array Value) : Kd → Prop
  | .L => h.IsList a its
  | .T => h.IsTuple a its
section
variable {X : Cx} {pins : List (Addr × Obj)} {σ : L2.St} {H : Hp} {s : Shared} {a it : Addr} {xs ys : List V} {k : Kd} {h h' : Heap} {i : Nat}
theorem sq_vals (I : Inv X pins σ H s) (q : Sq X.K H a xs k) : ∃ its : List Value, Vals xs its ∧ IsK s.heap a its.toArray k ∧ xs.length ≤ sizeLine := by
  cases k with
  | L =>
    obtain ⟨its, r, p, z⟩ := I.list q
    exact ⟨its, r, p.isList, z⟩
  | T =>
    obtain ⟨its, r, p, z⟩ := I.tuple q
    exact ⟨its, r, p, z⟩
theorem sq_inj (I : Inv X pins σ H s) (q : Sq X.K H a xs k) (q' : Sq X.K H a ys k) : xs = ys := by
  cases k with
  | L => exact I.list_inj q q'
  | T => exact I.tuple_inj q q'
theorem itk_obj (q : ItK h it a i k) : ∃ o vs, h.get? it = some o ∧ o.data = .fields vs ∧ (o.cls = .type "list_iterator" ∨ o.cls = .type "tuple_iterator") := by
  cases k with
  | L =>
    obtain ⟨o, e, c, d⟩ := q
    exact ⟨o, _, e, d, .inl c⟩
  | T =>
    obtain ⟨o, e, c, d⟩ := q
    exact ⟨o, _, e, d, .inr c⟩
theorem itk_at (q : ItK h it a i k) (f : ∀ o, h.get? it = some o → h'.get? it = some o) : ItK h' it a i k := by
  cases k with
  | L => exact Heap.IsListIter.at q f
  | T => exact Heap.IsTupleIter.at q f
theorem isk_obj {its : Array Value} (q : IsK h a its k) : ∃ o n, h.get? a = some o ∧ o.data = .seq its n := by
  cases k with
  | L =>
    obtain ⟨o, e, c, n, d⟩ := q
    exact ⟨o, n, e, d⟩
  | T =>
    obtain ⟨o, e, c, n, d⟩ := q
    exact ⟨o, n, e, d⟩
/-- an iterator's record is no list and no tuple -/
theorem isk_ne {its : Array Value} (q : IsK h a its k) {b : Addr} {o : Obj} {vs : Array Value} (e : h.get? b = some o) (d : o.data = .fields vs) : a ≠ b := by
  intro z
  obtain ⟨o', n, e', d'⟩ := isk_obj q
  rw [z, e] at e'
  have q' : o = o' := Option.some.inj e'
  rw [q', d'] at d
  cases d
theorem drawsK {prog : Program} {w : World} {A : Around} (hh : A.handled = none) (it a : Addr) (hne : a ≠ it) (items : Array Value) (k : Kd) :
    Draws prog w A it [it, a] items.size (fun i v => items[i]? = some v) (fun i h => ItK h it a i k ∧ IsK h a items k) := by
  cases k with
  | L => exact Draws.list hh it a hne items
  | T => exact Draws.tuple hh it a hne items
theorem beginsK (a : Addr) (items : Array Value) (k : Kd) : ∃ o, Begins (.ref a) o (fun h => IsK h a items k) ∧ ∀ (h : Heap) (it : Addr), h.get? it = some o → ItK h it a 0 k := by
  cases k with
  | L => exact ⟨_, begins_list a items, fun h it e => ⟨_, e, rfl, rfl⟩⟩
  | T => exact ⟨_, begins_tuple a items, fun h it e => ⟨_, e, rfl, rfl⟩⟩
end
/-! ### enumerate -/
def ItE (K : PySem.W.Frag) (a : Addr) (k : Kd) : It :=
  ⟨fun i H => ∃ (xs : List V) (x : V), Sq K H a xs k ∧ xs[i]? = some x,
    fun i H v H' => ∃ T x, v = .ref T ∧ H T = none ∧ H' = upd H T (.tup [.int (i : Nat), x]) ∧ ∀ xs, Sq K H a xs k → xs[i]? = some x,
    fun i H => ∃ xs : List V, Sq K H a xs k ∧ xs.length = i⟩
theorem turn_enumK {P : Program} {w : World} {K : PySem.W.Frag} {elts : List Expr} {kk : Nat} {tpos : Pos} (a e it : Addr) (k : Kd) :
    Turn P w K (.Tuple elts kk tpos) (ItE K a k) [e, it] e (fun i h => (∃ old, IsEnum h e it ((i : Nat) : Int) old) ∧ ItK h it a i k ∧ e ≠ it) where
  mem := by simp
  obj := fun i h st b hb => by
    obtain ⟨⟨old, he⟩, hi, _⟩ := st
    obtain ⟨o, vs, ho, hd, _⟩ := itk_obj hi
    have e' : b = e ∨ b = it := by simpa using hb
    rcases e' with z | z
    · rw [z]; exact ⟨_, he, fun v q => nomatch q⟩
    · rw [z]; exact ⟨o, ho, fun v q => by rw [hd] at q; cases q⟩
  keep := fun i h h' st k => let ⟨⟨old, he⟩, hi, hne⟩ := st; ⟨⟨old, k e (by simp) _ he⟩, itk_at hi fun o q => k it (by simp) o q, hne⟩
  item := by
    intro X hP hw hK hc i pins s σ H E I hf st hg
    subst hP hw hK
    obtain ⟨⟨old, he⟩, hit, hne⟩ := st
    obtain ⟨xs, x, hq, hx⟩ := hg
    obtain ⟨its, rv, p, hz⟩ := sq_vals I hq
    obtain ⟨u, hu, ru⟩ := rv.get hx
    have hlt : i < its.toArray.size := by
      have := (List.getElem?_eq_some_iff.mp hu).1
      simpa using this
    have hel : e < s.heap.objs.size := Heap.lt_size he
    obtain ⟨oi, vi, hoi, hdi, _⟩ := itk_obj hit
    have hil : it < s.heap.objs.size := Heap.lt_size hoi
    have ae : a ≠ e := isk_ne p he rfl
    have ai : a ≠ it := isk_ne p hoi hdi
    have hef : e ∉ [it, a] := by
      intro z
      rcases List.mem_cons.mp z with z | z
      · exact hne z
      · exact ae (List.mem_singleton.mp z).symm
    refine wpAny_pyNext_enum_itemC (drawsK (prog := X.prog) (w := X.w) (A := X.A.in1) (I.ok.hd hc) it a ai its.toArray k) he ⟨hit, p⟩ hlt hne hef fun x' h' tk hx' ho hst hT hsz hk => ?_
    have exu : x' = u := by
      have q2 : its.toArray[i]? = some u := by simpa using hu
      exact Option.some.inj ((show its.toArray[i]? = some x' from hx').symm.trans q2)
    subst exu
    refine ⟨_, rfl, wpAny_letOwnedTupleGo_enum (s := { s with heap := h', toks := tk + 1 }) ho fun h'' he' sb => ?_⟩
    have hT2 : h''.get? s.heap.objs.size = some { cls := .type "tuple", data := .seq #[.int i tk, x'] } := (sb.2 _ (Nat.ne_of_gt hel)).trans hT
    have new : ObjOk X.prog X.w (upd H s.heap.objs.size (.tup [.int (i : Nat), x])) h'' s.heap.objs.size (.tup [.int (i : Nat), x]) :=
      ⟨by show 2 ≤ sizeLine; decide, [.int i tk, x'], .cons ⟨_, rfl⟩ (.cons ru .nil), ⟨_, hT2, rfl, _, rfl⟩⟩
    have I1 : Inv X pins σ (upd H s.heap.objs.size (.tup [.int (i : Nat), x])) { s with heap := h'', toks := tk + 1 } :=
      I.turnedNew (ch := [e, it]) (fun b ob hb q => (sb.2 b (fun z => hb (by simp [z]))).trans (hk b ob (fun z => hb (by simp [z])) (fun z => hb (by simp [z])) q)) hf (Nat.le_refl _) new
    refine ⟨.ref s.heap.objs.size, _, I1, rfl, ⟨_, x, rfl, I.hok.fresh (Nat.le_refl _), rfl, fun ys hy => by rw [sq_inj I hy hq]; exact hx⟩, ⟨⟨x', ?_⟩, itk_at hst.1 fun o q => (sb.2 it (Ne.symm hne)).trans q, hne⟩, fun b hb => ?_⟩
    · have e1 : ((i + 1 : Nat) : Int) = (i : Int) + 1 := by omega
      rw [e1]; exact he'
    · have hb' : b < s.heap.objs.size := by
        have e' : b = e ∨ b = it := by simpa using hb
        rcases e' with z | z
        · rw [z]; exact hel
        · rw [z]; exact hil
      rw [upd_ne (Nat.ne_of_lt hb')]
      exact (hf b hb).1
  done := by
    intro X hP hw hK hc i pins s σ H E I hf st hg
    subst hP hw hK
    obtain ⟨⟨old, he⟩, hit, hne⟩ := st
    obtain ⟨xs, hq, hx⟩ := hg
    obtain ⟨its, rv, p, hz⟩ := sq_vals I hq
    obtain ⟨f0, f1, f2, f3, f4, f5⟩ := hf it (by simp)
    obtain ⟨oi, vi, hoi, hdi, _⟩ := itk_obj hit
    have ai : a ≠ it := isk_ne p hoi hdi
    have hn : i = its.toArray.size := by
      have hl := rv.length
      simp
      omega
    subst hn
    exact wpAny_pyNext_enum_endD (drawsK (prog := X.prog) (w := X.w) (A := X.A.in1) (I.ok.hd hc) it a ai its.toArray k) he ⟨hit, p⟩ fun h' eb => ⟨rfl, I.turned (t' := s.toks) (fun b o hb q => eb b o hb q) f0 f1 f3 f4 f5⟩
  self := fun A i s Q E st h => let ⟨⟨_, he⟩, _⟩ := st; wpAny_pyIter_enum he h
theorem meets_enumerate_B1 {v : Value} {o : Obj} {H : Heap → Prop} (B : Begins v o H) :
    Meets (Builtin.«enumerate.__new__» ⟨[.type "enumerate", v], []⟩) (fun _ R s => H s.heap ∧
      R (.ok (.ret (.ref (s.heap.push o).objs.size))) { s with heap := (s.heap.push o).push { cls := .type "enumerate", data := .fields #[.none, .bool false, .ref s.heap.objs.size, rawInt 0, .none, .none] } }) :=
  .of_wp fun prog w A R s h => by
    obtain ⟨hp, g, d, tk, os⟩ := s; obtain ⟨h1, h⟩ := h
    have hsub := sub_enumerate
    have q1 : ∀ {A' : Around} {E : Value → Shared → Prop} {Q : Value → Shared → Prop}, Q (.ref hp.objs.size) ⟨hp.push o, g, d, tk, os⟩ → wpAny (model prog w) A' (pyIter v) Q E ⟨hp, g, d, tk, os⟩ :=
      fun q => B.iter prog w _ _ ⟨hp, g, d, tk, os⟩ _ h1 q
    wp_walk using q1
    refine wpAny_stack_any fun st => wpAny_pure ?_
    split
    · rename_i c _ _ _ _ _
      cases (c == Value.type "enumerate")
      · wp_walk using q1
        exact ⟨_, rfl, h⟩
      · wp_walk using q1
        exact ⟨_, rfl, h⟩
    · wp_walk using q1
      exact ⟨_, rfl, h⟩
/-- enumerate(v) of a list or a tuple -/
def iEnK (K : PySem.W.Frag) (ta : TA) : TI := fun σ H R => ta σ H fun vs H1 => ∃ (a : Addr) (xs : List V) (k : Kd), vs = [.ref a] ∧ Sq K H1 a xs k ∧ R (ItE K a k) H1
theorem pi_enumK {X : Cx} {e : Expr} {ta : TA} {p pos tpos : Pos} {elts : List Expr} {kk : Nat} (hg : Gl X "enumerate") (hm : X.mg "enumerate" = none) (ha : PA X [e] ta) (hs : starEach [e] X.env = [(false, eval e X.env)] := by rfl) :
    PI X (.Tuple elts kk tpos) (.Call (.Name "enumerate" p) [e] [] pos) (iEnK X.K ta) := by
  refine ⟨fun pins s σ H R I h => ?_⟩
  refine Call_ (ld_blt I hg hm boot_enumerate (PyProof.Rows.callWith_type1 (thn (ha.run pos pins s σ H _ I h) fun us s1 ⟨vs, H1, I1, r1, q1⟩ => ?_) hs rfl))
  obtain ⟨a, xs, k, ex, hq, q⟩ := q1
  subst ex
  cases r1 with
  | cons r rr =>
    cases rr
    cases r
    obtain ⟨its, rv, p', hz⟩ := sq_vals I1 hq
    obtain ⟨o, B, hB⟩ := beginsK a its.toArray k
    refine callType_new F.called_enumerate (by decide) (F.typeCall_enumerate_1 _) (F.newCall_enumerate_1 _) (fun obj => F.args_object_init_2 obj _) F.entry_enumerate_new (meets_enumerate_B1 B) ⟨p', ?_⟩
    have hz : (s1.heap.push o).objs.size = s1.heap.objs.size + 1 := Heap.size_push ..
    show _ ∧ _
    rw [hz]
    have he : IsEnum ((s1.heap.push o).push { cls := .type "enumerate", data := .fields #[.none, .bool false, .ref s1.heap.objs.size, rawInt 0, .none, .none] }) (s1.heap.objs.size + 1) s1.heap.objs.size 0 .none := by
      have := Heap.get?_push_size (s1.heap.push o) (o := { cls := .type "enumerate", data := .fields #[.none, .bool false, .ref s1.heap.objs.size, rawInt 0, .none, .none] }) rfl
      rw [hz] at this; exact this
    have hit : ((s1.heap.push o).push { cls := .type "enumerate", data := .fields #[.none, .bool false, .ref s1.heap.objs.size, rawInt 0, .none, .none] }).get? s1.heap.objs.size = some o := Heap.get?_push_of_some _ (Heap.get?_push_size _ B.free)
    refine ⟨⟨_, he, rfl⟩, wpAny_pyIter_enum he ?_⟩
    have I2 : Inv X pins σ H1 { s1 with heap := (s1.heap.push o).push { cls := .type "enumerate", data := .fields #[.none, .bool false, .ref s1.heap.objs.size, rawInt 0, .none, .none] } } := I1.kept (t' := s1.toks) fun b o' x => Heap.get?_push_of_some _ (Heap.get?_push_of_some _ x)
    refine ⟨s1.heap.objs.size + 1, [s1.heap.objs.size + 1, s1.heap.objs.size], _, _, H1, rfl, I2, turn_enumK a (s1.heap.objs.size + 1) s1.heap.objs.size k, ⟨⟨.none, he⟩, hB _ _ hit, Nat.succ_ne_self _⟩, fun b hb => ?_, q⟩
    have e' : b = s1.heap.objs.size + 1 ∨ b = s1.heap.objs.size := by simpa using hb
    have hle : s1.heap.objs.size ≤ b := by
      rcases e' with z | z
      · rw [z]; exact Nat.le_add_right _ _
      · rw [z]; exact Nat.le_refl _
    exact I1.fpOk hle (I1.hok.fresh hle)
/-! ### zip -/
def ItZ (K : PySem.W.Frag) (a b : Addr) (k l : Kd) : It :=
  ⟨fun i H => ∃ (xs ys : List V) (x y : V), Sq K H a xs k ∧ Sq K H b ys l ∧ xs[i]? = some x ∧ ys[i]? = some y,
    fun i H v H' => ∃ T x y, v = .ref T ∧ H T = none ∧ H' = upd H T (.tup [x, y]) ∧ (∀ xs, Sq K H a xs k → xs[i]? = some x) ∧ ∀ ys, Sq K H b ys l → ys[i]? = some y,
    fun i H => ∃ xs ys : List V, Sq K H a xs k ∧ Sq K H b ys l ∧ i ≤ xs.length ∧ i ≤ ys.length ∧ (i = xs.length ∨ i = ys.length)⟩
structure Apart (z TI TO i1 i2 : Addr) : Prop where
  TIz : TI ≠ z
  TOz : TO ≠ z
  TITO : TI ≠ TO
  TIi1 : TI ≠ i1
  TIi2 : TI ≠ i2
  zi1 : z ≠ i1
  zi2 : z ≠ i2
  TOi1 : TO ≠ i1
  TOi2 : TO ≠ i2
  i12 : i1 ≠ i2
theorem isk_ne_tup {h : Heap} {a : Addr} {its : Array Value} {k : Kd} (q : IsK h a its k) {b : Addr} {o : Obj} {c : String} {vs : Array Value} {n : Nat} (e : h.get? b = some o) (d : o.data = .seq vs n) (hs : its.size ≠ vs.size) : a ≠ b := by
  intro z
  obtain ⟨o', n', e', d'⟩ := isk_obj q
  rw [z, e] at e'
  have q' : o = o' := Option.some.inj e'
  rw [q', d'] at d
  injection d with d1 _
  exact hs (congrArg Array.size d1)
theorem turn_zipK {P : Program} {w : World} {K : PySem.W.Frag} {elts : List Expr} {kk : Nat} {tpos : Pos} {a b z TI TO i1 i2 : Addr} (k l : Kd) (D : Apart z TI TO i1 i2) (hTa : TO ≠ a) (hTb : TO ≠ b) :
    Turn P w K (.Tuple elts kk tpos) (ItZ K a b k l) [z, TI, TO, i1, i2] z (fun i h => IsZip h z TI TO .none ∧ IsPair h TI (.ref i1) (.ref i2) ∧ (∃ x y, IsPair h TO x y) ∧ ItK h i1 a i k ∧ ItK h i2 b i l) where
  mem := by simp
  obj := fun i h st c hc => by
    obtain ⟨hz, hTI, ⟨x, y, hTO⟩, h1, h2⟩ := st
    obtain ⟨o1, v1, e1, d1, _⟩ := itk_obj h1
    obtain ⟨o2, v2, e2, d2, _⟩ := itk_obj h2
    have e' : c = z ∨ c = TI ∨ c = TO ∨ c = i1 ∨ c = i2 := by simpa using hc
    rcases e' with q | q | q | q | q
    · rw [q]; exact ⟨_, hz, fun v q => nomatch q⟩
    · rw [q]; exact ⟨_, hTI, fun v q => nomatch q⟩
    · rw [q]; exact ⟨_, hTO, fun v q => nomatch q⟩
    · rw [q]; exact ⟨o1, e1, fun v q => by rw [d1] at q; cases q⟩
    · rw [q]; exact ⟨o2, e2, fun v q => by rw [d2] at q; cases q⟩
  keep := fun i h h' st k => by
    obtain ⟨hz, hTI, ⟨x, y, hTO⟩, h1, h2⟩ := st
    exact ⟨k z (by simp) _ hz, k TI (by simp) _ hTI, ⟨x, y, k TO (by simp) _ hTO⟩, itk_at h1 fun o q => k i1 (by simp) o q, itk_at h2 fun o q => k i2 (by simp) o q⟩
  item := by
    intro X hP hw hK hc i pins s σ H E I hf st hg
    subst hP hw hK
    obtain ⟨hz, hTI, ⟨x0, y0, hTO⟩, h1, h2⟩ := st
    obtain ⟨xs, ys, x, y, hqx, hqy, hx, hy⟩ := hg
    obtain ⟨its, rv, p, _⟩ := sq_vals I hqx
    obtain ⟨its2, rv2, p2, _⟩ := sq_vals I hqy
    obtain ⟨u, hu, ru⟩ := rv.get hx
    obtain ⟨u2, hu2, ru2⟩ := rv2.get hy
    obtain ⟨o1, v1, e1, d1, _⟩ := itk_obj h1
    obtain ⟨o2, v2, e2, d2, _⟩ := itk_obj h2
    have hzl : z < s.heap.objs.size := Heap.lt_size hz
    have ai1 : a ≠ i1 := isk_ne p e1 d1
    have ai2 : a ≠ i2 := isk_ne p e2 d2
    have bi1 : b ≠ i1 := isk_ne p2 e1 d1
    have bi2 : b ≠ i2 := isk_ne p2 e2 d2
    have az : a ≠ z := isk_ne p hz rfl
    have bz : b ≠ z := isk_ne p2 hz rfl
    have S : ZipSep2 z TI TO i1 i2 [i1, a] [i2, b] :=
      { TIz := D.TIz, TOz := D.TOz, TITO := D.TITO, TIi1 := D.TIi1, mem1 := by simp, zf1 := by simp [D.zi1, az.symm], Tf1 := by simp [D.TOi1, hTa], TIi2 := D.TIi2, mem2 := by simp, zf2 := by simp [D.zi2, bz.symm], Tf2 := by simp [D.TOi2, hTb], sep1_2 := by simp [D.i12, bi1.symm], sep2_1 := by simp [D.i12.symm, ai2.symm] }
    have hl1 : i < its.toArray.size := by
      have := (List.getElem?_eq_some_iff.mp hu).1
      simpa using this
    have hl2 : i < its2.toArray.size := by
      have := (List.getElem?_eq_some_iff.mp hu2).1
      simpa using this
    refine wpAny_pyNext_zipD2_item S (drawsK (prog := X.prog) (w := X.w) (A := X.A.in1) (I.ok.hd hc) i1 a ai1 its.toArray k) (drawsK (prog := X.prog) (w := X.w) (A := X.A.in1) (I.ok.hd hc) i2 b bi2 its2.toArray l) hz hTI hTO ⟨h1, p⟩ ⟨h2, p2⟩ hl1 hl2 fun x1 x2 h' tk hx1 hx2 z' TO' h1' h2' hT hsz hk => ?_
    have ex1 : x1 = u := by
      have q2 : its.toArray[i]? = some u := by simpa using hu
      exact Option.some.inj ((show its.toArray[i]? = some x1 from hx1).symm.trans q2)
    have ex2 : x2 = u2 := by
      have q2 : its2.toArray[i]? = some u2 := by simpa using hu2
      exact Option.some.inj ((show its2.toArray[i]? = some x2 from hx2).symm.trans q2)
    subst ex1 ex2
    refine ⟨_, rfl, wpAny_letOwnedTupleGo_zip (s := { s with heap := h', toks := tk }) z' fun h'' z'' sb => ?_⟩
    have hT2 : h''.get? s.heap.objs.size = some { cls := .type "tuple", data := .seq #[x1, x2] } := (sb.2 _ (Nat.ne_of_gt hzl)).trans hT
    have new : ObjOk X.prog X.w (upd H s.heap.objs.size (.tup [x, y])) h'' s.heap.objs.size (.tup [x, y]) :=
      ⟨by show 2 ≤ sizeLine; decide, [x1, x2], .cons ru (.cons ru2 .nil), ⟨_, hT2, rfl, _, rfl⟩⟩
    have I1 : Inv X pins σ (upd H s.heap.objs.size (.tup [x, y])) { s with heap := h'', toks := tk } :=
      I.turnedNew (t' := tk) (ch := [z, TI, TO, i1, i2]) (fun c o hb q => (sb.2 c (fun q' => hb (by simp [q']))).trans (hk c o (fun q' => hb (by simp [q'])) (fun q' => hb (by simp [q'])) (fun q' => hb (by simp [q'])) (fun q' => hb (by simp [q'])) q)) hf (Nat.le_refl _) new
    refine ⟨.ref s.heap.objs.size, _, I1, rfl, ⟨_, x, y, rfl, I.hok.fresh (Nat.le_refl _), rfl, fun l' hl' => by rw [sq_inj I hl' hqx]; exact hx, fun l' hl' => by rw [sq_inj I hl' hqy]; exact hy⟩, ⟨z'', ?_, ⟨x1, x2, ?_⟩, ?_, ?_⟩, fun c hcm => ?_⟩
    · exact (sb.2 _ D.TIz).trans (hk _ _ D.TIz D.TITO D.TIi1 D.TIi2 hTI)
    · exact (sb.2 _ D.TOz).trans TO'
    · exact itk_at h1'.1 fun o q => (sb.2 _ D.zi1.symm).trans q
    · exact itk_at h2'.1 fun o q => (sb.2 _ D.zi2.symm).trans q
    · have hlt : c < s.heap.objs.size := by
        have e' : c = z ∨ c = TI ∨ c = TO ∨ c = i1 ∨ c = i2 := by simpa using hcm
        rcases e' with q | q | q | q | q
        · rw [q]; exact hzl
        · rw [q]; exact Heap.lt_size hTI
        · rw [q]; exact Heap.lt_size hTO
        · rw [q]; exact Heap.lt_size e1
        · rw [q]; exact Heap.lt_size e2
      rw [upd_ne (Nat.ne_of_lt hlt)]
      exact (hf c hcm).1
  done := by
    intro X hP hw hK hc i pins s σ H E I hf st hg
    subst hP hw hK
    obtain ⟨hz, hTI, ⟨x0, y0, hTO⟩, h1, h2⟩ := st
    obtain ⟨xs, ys, hqx, hqy, hle1, hle2, hend⟩ := hg
    obtain ⟨its, rv, p, _⟩ := sq_vals I hqx
    obtain ⟨its2, rv2, p2, _⟩ := sq_vals I hqy
    obtain ⟨o1, v1, e1, d1, _⟩ := itk_obj h1
    obtain ⟨o2, v2, e2, d2, _⟩ := itk_obj h2
    have ai1 : a ≠ i1 := isk_ne p e1 d1
    have ai2 : a ≠ i2 := isk_ne p e2 d2
    have bi1 : b ≠ i1 := isk_ne p2 e1 d1
    have bi2 : b ≠ i2 := isk_ne p2 e2 d2
    have az : a ≠ z := isk_ne p hz rfl
    have bz : b ≠ z := isk_ne p2 hz rfl
    have S : ZipSep2 z TI TO i1 i2 [i1, a] [i2, b] :=
      { TIz := D.TIz, TOz := D.TOz, TITO := D.TITO, TIi1 := D.TIi1, mem1 := by simp, zf1 := by simp [D.zi1, az.symm], Tf1 := by simp [D.TOi1, hTa], TIi2 := D.TIi2, mem2 := by simp, zf2 := by simp [D.zi2, bz.symm], Tf2 := by simp [D.TOi2, hTb], sep1_2 := by simp [D.i12, bi1.symm], sep2_1 := by simp [D.i12.symm, ai2.symm] }
    have l1 := rv.length
    have l2 := rv2.length
    refine wpAny_pyNext_zipD2_end S (drawsK (prog := X.prog) (w := X.w) (A := X.A.in1) (I.ok.hd hc) i1 a ai1 its.toArray k) (drawsK (prog := X.prog) (w := X.w) (A := X.A.in1) (I.ok.hd hc) i2 b bi2 its2.toArray l) hz hTI hTO ⟨h1, p⟩ ⟨h2, p2⟩ (by simp; omega) (by simp; omega) (by simp; omega) fun h' tk hk => ⟨rfl, I.turnedL (t' := tk) (ch := [z, TI, TO, i1, i2]) (fun c o hb q =>
      hk c o (fun q' => hb (by simp [q'])) (fun q' => hb (by simp [q'])) (fun q' => hb (by simp [q'])) (fun q' => hb (by simp [q'])) q) hf⟩
  self := fun A i s Q E st h => wpAny_pyIter_zip st.1 h
def iZiK (K : PySem.W.Frag) (ta : TA) : TI := fun σ H R => ta σ H fun vs H1 => ∃ (a b : Addr) (xs ys : List V) (k l : Kd), vs = [.ref a, .ref b] ∧ Sq K H1 a xs k ∧ Sq K H1 b ys l ∧ R (ItZ K a b k l) H1
theorem pi_zipK {X : Cx} {e e2 : Expr} {ta : TA} {p pos tpos : Pos} {elts : List Expr} {kk : Nat} (hg : Gl X "zip") (hm : X.mg "zip" = none) (ha : PA X [e, e2] ta)
    (hs : starEach [e, e2] X.env = (false, eval e X.env) :: starEach [e2] X.env := by rfl) (hpl : (backTo pos (starEach [e2] X.env)).any (·.1) = false := by rfl) :
    PI X (.Tuple elts kk tpos) (.Call (.Name "zip" p) [e, e2] [] pos) (iZiK X.K ta) := by
  refine ⟨fun pins s σ H R I h => ?_⟩
  refine Call_ (ld_blt I hg hm PyProof.Rows.boot_zip (PyProof.Rows.callWith_type1 (thn (ha.run pos pins s σ H _ I h) fun us s1 ⟨vs, H1, I1, r1, q1⟩ => ?_) hs hpl))
  obtain ⟨a, b, xs, ys, k, l, ex, hqx, hqy, q⟩ := q1
  subst ex
  cases r1 with
  | cons r rr =>
    cases rr with
    | cons r' rr =>
      cases rr
      cases r
      cases r'
      have fresh5 : ∀ c, c ∈ [s1.heap.objs.size + 4, s1.heap.objs.size + 2, s1.heap.objs.size + 3, s1.heap.objs.size, s1.heap.objs.size + 1] → FpOk X pins H1 c := fun c hcm => by
        have e' : c = s1.heap.objs.size + 4 ∨ c = s1.heap.objs.size + 2 ∨ c = s1.heap.objs.size + 3 ∨ c = s1.heap.objs.size ∨ c = s1.heap.objs.size + 1 := by simpa using hcm
        have hle : s1.heap.objs.size ≤ c := by
          rcases e' with z | z | z | z | z
          · rw [z]; exact Nat.le_add_right _ _
          · rw [z]; exact Nat.le_add_right _ _
          · rw [z]; exact Nat.le_add_right _ _
          · rw [z]; exact Nat.le_refl _
          · rw [z]; exact Nat.le_add_right _ _
        exact I1.fpOk hle (I1.hok.fresh hle)
      obtain ⟨its, rv, p1, _⟩ := sq_vals I1 hqx
      obtain ⟨its2, rv2, p2, _⟩ := sq_vals I1 hqy
      obtain ⟨o1, B1, hB1⟩ := beginsK a its.toArray k
      obtain ⟨o2, B2, hB2⟩ := beginsK b its2.toArray l
      obtain ⟨oa, na, ea, _⟩ := isk_obj p1
      obtain ⟨ob, nb, eb, _⟩ := isk_obj p2
      have la : a < s1.heap.objs.size := Heap.lt_size ea
      have lb : b < s1.heap.objs.size := Heap.lt_size eb
      refine zip_begins2 B1 B2 p1 p2 fun h' hz hTI hTO h1 h2 hsz hk => wpAny_pyIter_zip hz ?_
      have I2 : Inv X pins σ H1 { s1 with heap := h' } := I1.kept (t' := s1.toks) hk
      have D : Apart (s1.heap.objs.size + 4) (s1.heap.objs.size + 2) (s1.heap.objs.size + 3) s1.heap.objs.size (s1.heap.objs.size + 1) :=
        ⟨show (s1.heap.objs.size + 2 : Nat) ≠ s1.heap.objs.size + 4 by omega, show (s1.heap.objs.size + 3 : Nat) ≠ s1.heap.objs.size + 4 by omega, show (s1.heap.objs.size + 2 : Nat) ≠ s1.heap.objs.size + 3 by omega, show (s1.heap.objs.size + 2 : Nat) ≠ s1.heap.objs.size by omega, show (s1.heap.objs.size + 2 : Nat) ≠ s1.heap.objs.size + 1 by omega, show (s1.heap.objs.size + 4 : Nat) ≠ s1.heap.objs.size by omega, show (s1.heap.objs.size + 4 : Nat) ≠ s1.heap.objs.size + 1 by omega, show (s1.heap.objs.size + 3 : Nat) ≠ s1.heap.objs.size by omega, show (s1.heap.objs.size + 3 : Nat) ≠ s1.heap.objs.size + 1 by omega, show (s1.heap.objs.size : Nat) ≠ s1.heap.objs.size + 1 by omega⟩
      exact ⟨s1.heap.objs.size + 4, [s1.heap.objs.size + 4, s1.heap.objs.size + 2, s1.heap.objs.size + 3, s1.heap.objs.size, s1.heap.objs.size + 1], _, _, H1, rfl, I2, turn_zipK k l D (show (s1.heap.objs.size + 3 : Nat) ≠ a from Nat.ne_of_gt (Nat.lt_of_lt_of_le la (Nat.le_add_right _ _))) (show (s1.heap.objs.size + 3 : Nat) ≠ b from Nat.ne_of_gt (Nat.lt_of_lt_of_le lb (Nat.le_add_right _ _))), ⟨hz, hTI, ⟨_, _, hTO⟩, hB1 _ _ h1, hB2 _ _ h2⟩, fresh5, q⟩
/-! ### a list or a tuple itself -/
def ItS (K : PySem.W.Frag) (a : Addr) : Kd → It
  | .L => Itl K a
  | .T => Itt K a
def iSeq (K : PySem.W.Frag) (tl : TE) : TI := fun σ H R => tl σ H fun x H1 => ∃ (a : Addr) (xs : List V) (k : Kd), x = .ref a ∧ Sq K H1 a xs k ∧ R (ItS K a k) H1
theorem pi_seq {X : Cx} {tg l : Expr} {tl : TE} (hl : PE X l tl) : PI X tg l (iSeq X.K tl) := by
  refine ⟨fun pins s σ H R I h => ?_⟩
  refine thn (hl.run pins s σ H _ I h) fun v s1 ⟨x, H1, I1, r1, q1⟩ => ?_
  obtain ⟨a, xs, k, e, hq, q⟩ := q1
  subst e
  cases r1
  have fp : ∀ b ∈ [s1.heap.objs.size], FpOk X pins H1 b := fun b hb => by
    have e : b = s1.heap.objs.size := by simpa using hb
    subst e
    exact I1.fpOk (Nat.le_refl _) (I1.hok.fresh (Nat.le_refl _))
  cases k with
  | L =>
    obtain ⟨its, rv, p, hz⟩ := I1.list hq
    refine wpAny_pyIter_list p.isList ?_
    exact ⟨s1.heap.objs.size, [s1.heap.objs.size], _, _, H1, rfl, I1.kept (t' := s1.toks) fun b o e => Heap.get?_push_of_some _ e, turn_list a _, ⟨_, Heap.get?_push_size _ rfl, rfl, rfl⟩, fp, q⟩
  | T =>
    obtain ⟨its, rv, p, hz⟩ := I1.tuple hq
    refine wpAny_pyIter_tuple (show s1.heap.IsTuple a its.toArray from p) ?_
    exact ⟨s1.heap.objs.size, [s1.heap.objs.size], _, _, H1, rfl, I1.kept (t' := s1.toks) fun b o e => Heap.get?_push_of_some _ e, turn_tuple a _, ⟨_, Heap.get?_push_size _ rfl, rfl, rfl⟩, fp, q⟩
end K24
set_option Elab.async false
set_option linter.all false
set_option maxRecDepth 100000
set_option maxHeartbeats 4000000
/-! Own rules, second part: comprehensions that gather anything; dicts with tuple keys, sets of tuples. -/
namespace K24
open PySem PySem.Spec PyProof.Rows L2
section
variable {X : Cx}
/-- the reading of a comprehension over one for: o0 the empty thing, add what one element asks and leaves -/
def tCo (o0 : Addr → HO) (wi : TI) (g : TG) (tt : TT) (add : Addr → L2.St → Hp → (Hp → Prop) → Prop) (vs : List Nat) : TE := fun σ H Q => wi σ H fun J H1 => ∀ D, H1 D = none →
  ∃ W : Nat → Nat → Hp → Prop, (∃ m, W 0 m (upd H1 D (o0 D))) ∧ ∀ i m H, W i m H → (J.stop i H ∧ Q (.ref D) H) ∨
    (J.go i H ∧ ∃ Nx : Hp → Prop, (∀ H', Nx H' → ∃ m', m' < m ∧ W (i + 1) m' H') ∧
      ∀ x H', J.yld i H x H' → g x (wipe σ vs) H' fun σ2 H2 => wipe σ2 vs = wipe σ vs ∧ tt σ2 H2 fun b H3 => if b = true then add D σ2 H3 Nx else Nx H3)
abbrev ErB (X : Cx) (ce : Env) (R : Result → Shared → Prop) : Value → Shared → Prop := notedBy (model X.prog X.w) X.A ce fun e s' => R (.error e) s'
/-- one turn of a comprehension's loop, P the element's part -/
abbrev TurnC (X : Cx) (tg : Expr) (ifs : List Expr) (it : Addr) (ce : Env) (R : Result → Shared → Prop) (P : (Shared → Prop) → Shared → Prop) (I : Nat → Shared → Prop) : Prop :=
  ∀ n s, I n s → wpAny (model X.prog X.w) X.A (pyNext (.ref it)) (fun r s1 => match r with
    | none => R (.ok .next) s1
    | some v => wpAny (model X.prog X.w) X.A (letOwnedTupleGo tg (.ref it) v) (fun _ s2 => wpAny (model X.prog X.w) X.A (assign tg ce v) (fun _ s3 =>
        wpAny (model X.prog X.w) X.A (forIn ifs true fun c r => if r = true then do let ok ← isTrue c ce (eval c ce); pure (ForInStep.yield ok) else pure (ForInStep.yield r)) (fun ok s4 =>
          if ok = true then P (fun s5 => ∃ m, m < n ∧ I m s5) s4 else ∃ m, m < n ∧ I m s4) (ErB X ce R) s3) (ErB X ce R) s2) (ErB X ce R) s1) (ErB X ce R) s
/-- a kind of comprehension -/
structure Kind (X : Cx) (c : Expr) (tg iter : Expr) (ifs : List Expr) (scope : Scope) (newAcc : Sem Value) (oN : Obj) (o0 : Addr → HO) (add : Addr → L2.St → Hp → (Hp → Prop) → Prop)
    (P : Addr → Env → (Value → Shared → Prop) → (Shared → Prop) → Shared → Prop) : Prop where
  cl : clausesOf c = [⟨tg, iter, ifs, 0⟩]
  new : ∀ (s : Shared) (Q : Value → Shared → Prop) (E : Value → Shared → Prop), Q (.ref s.heap.objs.size) { s with heap := s.heap.push oN } → wpAny (model X.prog X.w) X.A newAcc Q E s
  ob : ∀ (H : Hp) (h : Heap), sysModules < h.objs.size → ObjOk X.prog X.w (upd H h.objs.size (o0 h.objs.size)) (h.push oN) h.objs.size (o0 h.objs.size)
  loop : ∀ (it D : Addr) (ce : Env) (R : Result → Shared → Prop) (I : Nat → Shared → Prop), TurnC X tg ifs it ce R (P D ce (ErB X ce R)) I → ∀ n s, I n s → codeAny (model X.prog X.w) X.A (.compLoop c 0 (.ref it) (.ref D) ce) R s
  start : ∀ (it D : Addr) (ce : Env) (R : Result → Shared → Prop) (s : Shared), codeAny (model X.prog X.w) X.A (.compLoop c 0 (.ref it) (.ref D) ce) R s →
    wpAny (model X.prog X.w) X.A (pyIter (.ref it)) (fun it' s' => codeAny (model X.prog X.w) X.A (.compLoop c 0 it' (.ref D) ce) R s') (ErB X ce R) s → codeAny (model X.prog X.w) X.A (.compStart c 0 (.ref it) (.ref D) ce) R s
  elt : ∀ (s : Shared) (H : Hp) (C : Addr) (cl : List (PySem.Str × Addr)) (fp : List Addr) (D : Addr) (Er : Value → Shared → Prop) (pins : List (Addr × Obj)) (σ : L2.St) (H1 : Hp) (s1 : Shared) (Nx : Hp → Prop) (Kn : Shared → Prop),
    Inv (X.blk s H scope (compEnvC scope cl C X.env) fp) pins σ H1 s1 → add D σ H1 Nx → (∀ s2 H2, Inv (X.blk s H scope (compEnvC scope cl C X.env) fp) pins σ H2 s2 → Nx H2 → Kn s2) → P D (compEnvC scope cl C X.env) Er Kn s1
theorem co_core {c tg iter : Expr} {ifs : List Expr} {scope : Scope} {own : List (PySem.Str × Nat)} {pos' : Pos} {wi : TI} {g : TG} {tt : TT} {newAcc : Sem Value} {oN : Obj} {o0 : Addr → HO} {add : Addr → L2.St → Hp → (Hp → Prop) → Prop}
    {P : Addr → Env → (Value → Shared → Prop) → (Shared → Prop) → Shared → Prop} (KD : Kind X c tg iter ifs scope newAcc oN o0 add P) {pins : List (Addr × Obj)} {s : Shared} {σ : L2.St} {H : Hp} {Q : VK}
    (hc : X.calm = true) (hN : X.N.Nodup) (I : Inv X pins σ H s) (hi : PI X tg iter wi) (ok : BlkOk X.N X.env.scope scope own)
    (hg : ∀ (s : Shared) (H : Hp) (C : Addr) (cl : List (PySem.Str × Addr)) (fp : List Addr), PG (X.blk s H scope (compEnvC scope cl C X.env) fp) tg g)
    (ht : ∀ (s : Shared) (H : Hp) (C : Addr) (cl : List (PySem.Str × Addr)) (fp : List Addr), PTs (X.blk s H scope (compEnvC scope cl C X.env) fp) ifs tt)
    (hs : ∀ x, foldedSetIterable iter X.env x = pure x) (h : tCo o0 wi g tt add (own.map (·.2)) σ H Q) :
    wpAny (model X.prog X.w) X.A (comprehension c scope X.env pos' newAcc false (eval iter X.env) none) (EP X pins σ Q) X.xe s := by
  have closure : ∀ y ∈ scope.names, y.2 = .free → ∃ a, X.env.cells.lookup y.1 = some a := fun y hy e =>
    (ok.free y hy e).elim (fun k => I.ok.has _ (.inl k)) fun k => I.ok.has _ (.inr k)
  refine wpAny_comprehension_free KD.cl hs (closure_ok closure) ok.kind (fun y hy e => (ok.uniq y hy).trans (congrArg some e)) (thn (hi.run pins s σ H _ I h) fun xv s1 hx => thn hx fun itv s2 h2 => ?_)
  obtain ⟨it, fp, tn, J, H2, rfl, I2, T, st2, f2, q⟩ := h2
  refine KD.new s2 _ _ (newEnv_comp ?_)
  have hDn : H2 s2.heap.objs.size = none := I2.hok.fresh (Nat.le_refl _)
  obtain ⟨W, ⟨m0, w0⟩, turn⟩ := q s2.heap.objs.size hDn
  have I3 : Inv X pins σ (upd H2 s2.heap.objs.size (o0 s2.heap.objs.size)) { s2 with heap := s2.heap.push oN } := I2.laid (t' := s2.toks) (fun b o e => Heap.get?_push_of_some _ e) (Nat.le_refl _) (KD.ob H2 s2.heap I2.big)
  have f3 : ∀ b ∈ fp, FpOk X pins (upd H2 s2.heap.objs.size (o0 s2.heap.objs.size)) b ∧ b < (s2.heap.push oN).objs.size := fun b hb => by
    obtain ⟨ob, eb, _⟩ := T.obj _ _ st2 b hb
    have lt := Heap.lt_size eb
    refine ⟨⟨?_, (f2 b hb).2⟩, by rw [Heap.size_push]; exact Nat.lt_succ_of_lt lt⟩
    rw [upd_ne (Nat.ne_of_lt lt)]
    exact (f2 b hb).1
  have st3 : tn 0 (s2.heap.push oN) := T.keep _ _ _ st2 fun b _ o e => Heap.get?_push_of_some _ e
  generalize hD : s2.heap.objs.size = D at w0 turn I3 f3 ⊢
  generalize hs3 : ({ s2 with heap := s2.heap.push oN } : Shared) = s3 at I3 ⊢
  have h3 : s3.heap = s2.heap.push oN := by rw [← hs3]
  rw [← h3] at f3 st3
  have I4 := block_start I3 ok hN f3
  generalize hcl : cellsFrom (s3.heap.objs.size + 1) scope.names (cloFrom X.env.cells scope.names []) = cl at I4 ⊢
  have pg := hg s3 (upd H2 D (o0 D)) s3.heap.objs.size cl fp
  have pt := ht s3 (upd H2 D (o0 D)) s3.heap.objs.size cl fp
  have pe := KD.elt s3 (upd H2 D (o0 D)) s3.heap.objs.size cl fp D
  show codeAny _ _ (.compStart c 0 (.ref it) (.ref D) (compEnvC scope cl s3.heap.objs.size X.env)) (compPost (model X.prog X.w) X.A X.xe none (EP X pins σ Q) (.ref D) s3.heap.objs.size) { s3 with heap := pushCells (s3.heap.push { cls := .type "dict", data := .dict #[] }) scope.names }
  have nfp : ∀ b ∈ fp, (upd H2 D (o0 D)) b = none := fun b hb => (f3 b hb).1.1
  generalize hce : compEnvC scope cl s3.heap.objs.size X.env = ce at I4 pg pt pe ⊢
  have cL : ce.locals = s3.heap.objs.size := by rw [← hce] <;> rfl
  generalize hs4 : ({ s3 with heap := pushCells (s3.heap.push { cls := .type "dict", data := .dict #[] }) scope.names } : Shared) = s4 at I4 ⊢
  have st4 : tn 0 s4.heap := T.keep _ _ _ st3 fun b _ o e => by rw [← hs4]; exact pushCells_keeps _ _ _ _ (Heap.get?_push_of_some _ e)
  generalize hH3 : upd H2 D (o0 D) = H3 at w0 I3 f3 I4 pg pt pe nfp
  have stat : ∀ {pl σ' H' s'}, Inv (X.blk s3 H3 scope ce fp) pl σ' H' s' → (∀ b ∈ fp, H' b = none) → ∀ b ∈ fp, FpOk (X.blk s3 H3 scope ce fp) [] H' b := fun I' hn b hb =>
    ⟨hn b hb, (I'.ok.exf b hb).1, I'.ok.exfs b hb, .inl hb, fun x c e => (I'.ok.exf b hb).2 x c e, fun p hp => absurd (show p ∈ ([] : List (Addr × Obj)) ++ [] from hp) (by simp)⟩
  have walk : codeAny (model X.prog X.w) X.A (.compLoop c 0 (.ref it) (.ref D) ce) (compPost (model X.prog X.w) X.A X.xe none (EP X pins σ Q) (.ref D) s3.heap.objs.size) s4 := by
    refine KD.loop it D ce _ (fun n s' => ∃ i H', Inv (X.blk s3 H3 scope ce fp) [] (wipe σ (own.map (·.2))) H' s' ∧ tn i s'.heap ∧ (∀ b ∈ fp, H' b = none) ∧ W i n H') ?_ m0 s4 ⟨0, H3, I4, st4, nfp, w0⟩
    rintro n s5 ⟨i, H5, I5, st5, n5, w5⟩
    rcases turn i n H5 w5 with ⟨stop, qq⟩ | ⟨go, Nx, hNx, step⟩
    · refine thnF (T.done (X.blk s3 H3 scope ce fp) rfl rfl rfl hc i [] s5 _ H5 (fun _ _ => False) I5 (stat I5 n5) st5 stop) fun r s6 ⟨hr, I6⟩ => ?_
      subst hr
      have I7 : Inv X pins σ H5 s6 := I3.call' (ch := fp) I6.os I6.base I6.hok I6.bare fun b hb => ⟨(f3 b hb).1.2.2.2.1, (f3 b hb).1.2.1, (f3 b hb).1.2.2.2.2.1, (f3 b hb).1.2.2.2.2.2⟩
      obtain ⟨m, hn, _⟩ := I6.loc
      have nC : H5 ce.locals = none := I6.free
      have hn : s6.heap.Ns ce.locals m := hn
      rw [cL] at hn nC
      obtain ⟨g0, g1, g2, g3, g4, g5⟩ := I3.fpOk (Nat.le_refl _) nC
      exact ⟨m, hn, fun h'' sb => ⟨.ref D, H5, I7.turned (t' := s6.toks) (fun b o hb e => (sb.2 b hb).trans e) g0 g1 g3 g4 g5, rfl, qq⟩⟩
    · refine thnF (T.item (X.blk s3 H3 scope ce fp) rfl rfl rfl hc i [] s5 _ H5 (fun _ _ => False) I5 (stat I5 n5) st5 go) fun r s6 ⟨u, hr, h6⟩ => ?_
      subst hr
      refine thnF h6 fun _ s7 ⟨x, H7, I7, r7, y7, st7, n7⟩ => ?_
      have I7' := I7.pinned (stat I7 n7) (T.obj _ _ st7)
      refine thnF (pg.run _ s7 _ H7 x u _ I7' r7 (step x H7 y7)) fun _ s8 ⟨σ8, H8, I8, hw8, q8⟩ => ?_
      refine thnF (pt.run _ s8 σ8 H8 _ I8 q8) fun b s9 ⟨H9, I9, q9⟩ => ?_
      have close : ∀ s' H', Inv (X.blk s3 H3 scope ce fp) ([] ++ pinsAt fp s7.heap) σ8 H' s' → Nx H' → ∃ m, m < n ∧ ∃ i H', Inv (X.blk s3 H3 scope ce fp) [] (wipe σ (own.map (·.2))) H' s' ∧ tn i s'.heap ∧ (∀ b ∈ fp, H' b = none) ∧ W i m H' := fun s' H' I' nx => by
        obtain ⟨m', hm, w'⟩ := hNx H' nx
        have held : ∀ b ∈ fp, ∀ o, s7.heap.get? b = some o → s'.heap.get? b = some o ∧ H' b = none := fun b hb o e =>
          ⟨(I'.pin (b, o) (List.mem_append_right _ (List.mem_append_right _ (mem_pinsAt hb e)))).1, (I'.pin (b, o) (List.mem_append_right _ (List.mem_append_right _ (mem_pinsAt hb e)))).2.1⟩
        refine ⟨m', hm, i + 1, H', (I'.unpinned (pins := [])).weak (by rw [← hw8, wipe_length]) (fun j v e => ?_), T.keep _ _ _ st7 fun b hb o e => (held b hb o e).1, fun b hb => ?_, w'⟩
        · rw [← hw8] at e
          exact (wipe_some e).1
        · obtain ⟨o, e, _⟩ := T.obj _ _ st7 b hb
          exact (held b hb o e).2
      cases b with
      | false =>
        rw [if_neg Bool.false_ne_true] at q9 ⊢
        exact close s9 H9 I9 q9
      | true =>
        rw [if_pos rfl] at q9 ⊢
        exact pe _ _ σ8 H9 s9 Nx _ I9 q9 fun s2' H2' J2 nx => close s2' H2' J2 nx
  exact KD.start it D ce _ s4 walk (T.self X.A 0 _ _ _ st4 walk)
/-! ### {k: v for ..} with tuple keys -/
/-- d[y] = z behind a key and a value -/
def addT (tk tv : TE) : Addr → L2.St → Hp → (Hp → Prop) → Prop := fun D σ H Nx => tk σ H fun y H1 => tv σ H1 fun z H2 => ∃ kvs k b, H2 D = some (.dT kvs) ∧ y = .ref b ∧ H2 b = some (.tup (k.map kV)) ∧ kvs.length < sizeLine ∧ Nx (upd H2 D (.dT (putK kvs k z)))
theorem dictSetT {pins : List (Addr × Obj)} {σ : L2.St} {H : Hp} {s : Shared} {A : Around} {E : Value → Shared → Prop} {D b : Addr} {kvs : List (List Key × V)} {k : List Key} {v : V} {r : Value} {Q : Unit → Shared → Prop} (hu : A.units + 1 < cLine) (I : Inv X pins σ H s)
    (hD : H D = some (.dT kvs)) (hb : H b = some (.tup (k.map kV))) (hz : kvs.length < sizeLine) (rv : RelV v r) (h : ∀ s', Inv X pins σ (upd H D (.dT (putK kvs k v))) s' → Q () s') : wpAny (model X.prog X.w) A (dictSet D (.ref b) r) Q E s := by
  obtain ⟨z, hd, xs, rel, dd⟩ := dt_of I.hok hD
  have hx : xs.length ≤ sizeLine := by rw [← Paired.length rel]; exact z
  have hl : (putK kvs k v).length ≤ sizeLine := by have := length_putK kvs k v; omega
  refine wpAny_dictSet_heap (hsz := hx) (show A.units < cLine by omega) (key_of I.hok hb) dd fun h' dd' sb => h _ ?_
  obtain ⟨q, es, ep, hq, h2, h3, h4, _, h5⟩ := dd'
  refine d_write I (by rw [hD]; exact True.intro) sb ⟨q, hq⟩ ⟨hl, hd, _, (rel.put k hb rv).keeps fun c ys ec => ?_, q, es, ep, hq, h2, h3, h4, h5⟩
  rw [upd_ne (ne_of ec hD (fun z => nomatch z))]
  exact ec
theorem dt_empty {P : Program} {w : World} {H : Hp} {h : Heap} (big : sysModules < h.objs.size) : ObjOk P w H (h.push { cls := .type "dict", data := .dict #[] }) h.objs.size (.dT []) :=
  ⟨Nat.zero_le _, by simpa using Nat.ne_of_gt big, [], .nil, _, #[], 0, Heap.get?_push_size _ rfl, ⟨rfl, rfl, rfl⟩, rfl, rfl, List.nodup_nil⟩
theorem kind_dT {kx vx tg iter : Expr} {ifs : List Expr} {scope : Scope} {pos : Pos} {tk tv : TE} (hu : X.A.units + 1 < cLine)
    (hk : ∀ (s : Shared) (H : Hp) (C : Addr) (cl : List (PySem.Str × Addr)) (fp : List Addr), PE (X.blk s H scope (compEnvC scope cl C X.env) fp) kx tk)
    (he : ∀ (s : Shared) (H : Hp) (C : Addr) (cl : List (PySem.Str × Addr)) (fp : List Addr), PE (X.blk s H scope (compEnvC scope cl C X.env) fp) vx tv) :
    Kind X (.DictComp kx vx [⟨tg, iter, ifs, 0⟩] scope pos) tg iter ifs scope newDict { cls := .type "dict", data := .dict #[] } (fun _ => .dT []) (addT tk tv)
      (fun D ce Er Kn s => wpAny (model X.prog X.w) X.A (eval kx ce) (fun kv s4 => wpAny (model X.prog X.w) X.A (eval vx ce) (fun vv s5 => wpAny (model X.prog X.w) X.A (dictSet D kv vv) (fun _ s6 => Kn s6) Er s5) Er s4) Er s) where
  cl := rfl
  new := fun s Q E h => wpAny_newObj_type h
  ob := fun H h big => dt_empty big
  loop := fun it D ce R I turn n s h => compLoop_anyD I turn n h
  start := fun it D ce R s h0 h => codeAny_compStart_dict h0 h
  elt := fun s H C cl fp D Er pins σ H1 s1 Nx Kn I h kn => by
    refine thnF ((hk s H C cl fp).run pins s1 σ H1 _ I h) fun kv s2 ⟨y, H2, I2, r2, q2⟩ => ?_
    refine thnF ((he s H C cl fp).run pins s2 σ H2 _ I2 q2) fun vv s3 ⟨z, H3, I3, r3, kvs, k, b, hD, ey, hb, hz, nx⟩ => ?_
    subst ey
    cases (show kv = Value.ref b from r2)
    exact dictSetT (X := X.blk s H scope (compEnvC scope cl C X.env) fp) (A := X.A) hu I3 hD hb hz r3 fun s' I' => kn s' _ I' nx
theorem pe_dcT {kx vx tg iter : Expr} {ifs : List Expr} {scope : Scope} {own : List (PySem.Str × Nat)} {pos : Pos} {wi : TI} {g : TG} {tt : TT} {tk tv : TE} (hu : X.A.units + 1 < cLine) (hc : X.calm = true) (hN : X.N.Nodup) (hi : PI X tg iter wi) (ok : BlkOk X.N X.env.scope scope own)
    (hg : ∀ (s : Shared) (H : Hp) (C : Addr) (cl : List (PySem.Str × Addr)) (fp : List Addr), PG (X.blk s H scope (compEnvC scope cl C X.env) fp) tg g) (ht : ∀ (s : Shared) (H : Hp) (C : Addr) (cl : List (PySem.Str × Addr)) (fp : List Addr), PTs (X.blk s H scope (compEnvC scope cl C X.env) fp) ifs tt)
    (hk : ∀ (s : Shared) (H : Hp) (C : Addr) (cl : List (PySem.Str × Addr)) (fp : List Addr), PE (X.blk s H scope (compEnvC scope cl C X.env) fp) kx tk)
    (he : ∀ (s : Shared) (H : Hp) (C : Addr) (cl : List (PySem.Str × Addr)) (fp : List Addr), PE (X.blk s H scope (compEnvC scope cl C X.env) fp) vx tv) (hs : ∀ x, foldedSetIterable iter X.env x = pure x := by intro _; rfl) :
    PE X (.DictComp kx vx [⟨tg, iter, ifs, 0⟩] scope pos) (tCo (fun _ => .dT []) wi g tt (addT tk tv) (own.map (·.2))) := by
  refine ⟨fun pins s σ H Q I h => ?_⟩
  rw [arm_eval_DictComp]
  exact co_core (kind_dT hu hk he) hc hN I hi ok hg ht hs h
/-! ### {e for ..}, tuples of ints -/
def addS (K : PySem.W.Frag) (P : Program) (w : World) (te : TE) : Addr → L2.St → Hp → (Hp → Prop) → Prop := fun D σ H Nx => te σ H fun y H1 => ∃ (L : List (Addr × List Int)) (b : Addr) (k : List Int), H1 D = some (SetTO P w D L) ∧ y = .ref b ∧ H1 b = some (.tup (k.map V.int)) ∧ (∀ p ∈ L, SqT K H1 p.1 (p.2.map V.int)) ∧ L.length + 1 < 64 ∧
  ∀ L', (k ∈ L.map (·.2) → L' = L) → (k ∉ L.map (·.2) → L'.Perm ((b, k) :: L)) → Nx (upd H1 D (SetTO P w D L'))
theorem call_set_add {a x : Addr} {k : List Int} {A : Around} {E : Value → Shared → Prop} {P : Program} {w : World} {s : Shared} {L : List (Addr × List Int)} {es : Array (Int × Value)} {ep : Nat} {t : SetTable} {Q : Value → Shared → Prop} (R : SetTR P w s.heap a L es ep t) (hx : IsT P w s.heap k x) (hu : A.units + 2 < cLine) (hfew : L.length + 1 < 64)
    (hQ : ∀ h' tk L' es' ep' t', Heap.SameBut a s.heap h' → SetTR P w h' a L' es' ep' t' → (k ∈ L.map (·.2) → L' = L) → (k ∉ L.map (·.2) → L'.Perm ((x, k) :: L)) → Q .none { s with heap := h', toks := tk }) :
    wpAny (model P w) A (call (.builtin "set.add") [.ref a, .ref x]) Q E s := by
  obtain ⟨o, ho, hex, hd⟩ := id R.ob
  have hT : s.TypeIs (.ref a) "set" := ⟨o, ho, hex.1⟩
  refine wpAny_call_entry F.slot_set_add hT F.entry_set_add ?_ (F.args_set_add_2 _ _)
  unfold Builtin.«set.add» Builtin.Frozenset.oneOther
  simp only [List.isEmpty_nil, bind_assoc]
  unfold Builtin.Frozenset.addrOf setAdd
  refine wpAny_bind (wpAny_pure ?_)
  try dsimp only
  refine wpAny_bind (wpAny_pure ?_)
  try dsimp only
  refine wpAny_bind (wpAny_holding (wpAny_bind (wpAny_pyHash_tuple (by show A.in1.units < cLine; have : A.in1.units = A.units + 1 := rfl; omega) hx ?_)))
  refine add_at (s := { s with toks := s.toks + (k.length + 1) }) R hx (by show A.in1.units < cLine; have : A.in1.units = A.units + 1 := rfl; omega) hfew fun b h' L' es' ep' t' sb R' c1 c2 => ?_
  show wpAny _ _ (ret Value.none) _ _ _
  exact wpAny_pure ⟨_, rfl, hQ h' _ L' es' ep' t' sb R' c1 c2⟩
theorem kind_sT {elt tg iter : Expr} {ifs : List Expr} {scope : Scope} {pos : Pos} {te : TE} (hu : X.A.units + 2 < cLine)
    (he : ∀ (s : Shared) (H : Hp) (C : Addr) (cl : List (PySem.Str × Addr)) (fp : List Addr), PE (X.blk s H scope (compEnvC scope cl C X.env) fp) elt te) :
    Kind X (.SetComp elt [⟨tg, iter, ifs, 0⟩] scope pos) tg iter ifs scope (newSet (.type "set")) { cls := .type "set", dict := none, data := .set #[] 0 (.fresh 0 0 (!X.w.params.followText "set-order")) } (fun D => SetTO X.prog X.w D []) (addS X.K X.prog X.w te)
      (fun D ce Er Kn s => wpAny (model X.prog X.w) X.A (eval elt ce) (fun x s4 => wpAny (model X.prog X.w) X.A (call (.builtin "set.add") [.ref D, x]) (fun _ s5 => Kn s5) Er s4) Er s) where
  cl := rfl
  new := fun s Q E h => PpSet.newSet_ok h
  ob := fun H h big => setTO_new (SetTR.t0 (setTR_fresh (Heap.get?_push_size _ rfl)))
  loop := fun it D ce R I turn n s h => PpSet.compLoopS_any I turn n h
  start := fun it D ce R s h0 h => PpSet.codeAny_compStart_set h0 h
  elt := fun s H C cl fp D Er pins σ H1 s1 Nx Kn I h kn => by
    refine thnF ((he s H C cl fp).run pins s1 σ H1 _ I h) fun x s2 ⟨y, H2, I2, r2, L, b, k, hD, ey, hb, hL, hf, nx⟩ => ?_
    subst ey
    cases (show x = Value.ref b from r2)
    have R0 : SetT0 X.prog X.w s2.heap D L := (I2.hok D _ hD).1
    obtain ⟨es, ep, t, R⟩ := R0.full fun p hp => I2.isT (hL p hp)
    refine call_set_add (P := X.prog) (w := X.w) R (I2.isT (SqT.of hb)) hu hf fun h' tk L' es' ep' t' sb R' c1 c2 => kn _ _ ?_ (nx L' c1 c2)
    have he : ∃ u, h'.get? D = some u := by
      obtain ⟨o, ho, _⟩ := R'.ob
      exact ⟨o, ho⟩
    exact I2.write (e := D) (t' := tk) (by rw [hD]; trivial) (.inl rfl) (fun b u hb hu => (sb.2 b hb).trans hu) he (setTO_new R'.t0)
theorem pe_scT {elt tg iter : Expr} {ifs : List Expr} {scope : Scope} {own : List (PySem.Str × Nat)} {pos : Pos} {wi : TI} {g : TG} {tt : TT} {te : TE} (hu : X.A.units + 2 < cLine) (hc : X.calm = true) (hN : X.N.Nodup) (hi : PI X tg iter wi) (ok : BlkOk X.N X.env.scope scope own)
    (hg : ∀ (s : Shared) (H : Hp) (C : Addr) (cl : List (PySem.Str × Addr)) (fp : List Addr), PG (X.blk s H scope (compEnvC scope cl C X.env) fp) tg g) (ht : ∀ (s : Shared) (H : Hp) (C : Addr) (cl : List (PySem.Str × Addr)) (fp : List Addr), PTs (X.blk s H scope (compEnvC scope cl C X.env) fp) ifs tt)
    (he : ∀ (s : Shared) (H : Hp) (C : Addr) (cl : List (PySem.Str × Addr)) (fp : List Addr), PE (X.blk s H scope (compEnvC scope cl C X.env) fp) elt te) (hs : ∀ x, foldedSetIterable iter X.env x = pure x := by intro _; rfl) :
    PE X (.SetComp elt [⟨tg, iter, ifs, 0⟩] scope pos) (tCo (fun D => SetTO X.prog X.w D []) wi g tt (addS X.K X.prog X.w te) (own.map (·.2))) := by
  refine ⟨fun pins s σ H Q I h => ?_⟩
  rw [PpSet.eval_SetComp]
  exact co_core (kind_sT hu he) hc hN I hi ok hg ht hs h
end
end K24
set_option Elab.async false
set_option linter.all false
set_option maxRecDepth 100000
set_option maxHeartbeats 4000000
/-! The text by places, the facts of the module, calls. -/
namespace K24
open PySem PySem.Spec PyProof.Rows L2
def top (i : Nat) : Stmt := PySem.Challenge.pw_onceitwas_k24_whole_houses_made_for_told.main.body.getD i (.Pass ⟨0, 0, 0, 0⟩)
abbrev s_is_integer : Stmt := top 11
abbrev s_is_number : Stmt := top 12
abbrev s_is_sequence : Stmt := top 13
abbrev s_wrong_size : Stmt := top 20
abbrev s_fits_sizes : Stmt := top 21
abbrev s_wrong_standing : Stmt := top 22
abbrev s_wrong_change : Stmt := top 23
abbrev s_need_house : Stmt := top 25
abbrev s_need_question : Stmt := top 27
abbrev s_is_window : Stmt := top 28
abbrev s_need_view : Stmt := top 29
abbrev s_cell_view : Stmt := top 30
abbrev s_seen_at : Stmt := top 31
abbrev s_shown_contents : Stmt := top 33
abbrev s_is_shown : Stmt := top 34
abbrev s_need_row : Stmt := top 35
abbrev s_need_word : Stmt := top 37
abbrev s_need_sight : Stmt := top 38
abbrev s_led_lot : Stmt := top 39
abbrev s_left_lot : Stmt := top 40
abbrev s_dying_lots : Stmt := top 41
abbrev s_word_settles : Stmt := top 42
abbrev s_shortest_word : Stmt := top 43
abbrev s_fewest_looks : Stmt := top 44
abbrev s_need_letters : Stmt := top 47
abbrev s_has_scattered : Stmt := top 48
abbrev s_superword_house : Stmt := top 49
abbrev s_need_length : Stmt := top 50
abbrev s_settled_tables : Stmt := top 51
abbrev s_count_words : Stmt := top 52
abbrev s_law_dealt : Stmt := top 54
abbrev s_law_any : Stmt := top 55
abbrev s_law_of : Stmt := top 56
abbrev s_law_word : Stmt := top 57
abbrev s_law_told_word : Stmt := top 58
abbrev s_law_told_words : Stmt := top 59
abbrev s_law_built : Stmt := top 60
abbrev s_law_moved : Stmt := top 61
abbrev s_law_most : Stmt := top 62
abbrev s_law_refused : Stmt := top 63
abbrev s_law : Stmt := top 64
abbrev s_Houseinit : Stmt := inClass (top 24) 0
abbrev s_Houseeq : Stmt := inClass (top 24) 1
abbrev s_Houselen : Stmt := inClass (top 24) 2
def d_is_integer : He.DefD := ⟨("is_integer", none), "is_integer", "is_integer", defArgs s_is_integer, defBody s_is_integer, defScope s_is_integer, [], []⟩
def d_is_number : He.DefD := ⟨("is_number", none), "is_number", "is_number", defArgs s_is_number, defBody s_is_number, defScope s_is_number, [], []⟩
def d_is_sequence : He.DefD := ⟨("is_sequence", none), "is_sequence", "is_sequence", defArgs s_is_sequence, defBody s_is_sequence, defScope s_is_sequence, [], []⟩
def d_wrong_size : He.DefD := ⟨("wrong_size", none), "wrong_size", "wrong_size", defArgs s_wrong_size, defBody s_wrong_size, defScope s_wrong_size, [], []⟩
def d_fits_sizes : He.DefD := ⟨("fits_sizes", none), "fits_sizes", "fits_sizes", defArgs s_fits_sizes, defBody s_fits_sizes, defScope s_fits_sizes, [], []⟩
def d_wrong_standing : He.DefD := ⟨("wrong_standing", none), "wrong_standing", "wrong_standing", defArgs s_wrong_standing, defBody s_wrong_standing, defScope s_wrong_standing, [], []⟩
def d_wrong_change : He.DefD := ⟨("wrong_change", none), "wrong_change", "wrong_change", defArgs s_wrong_change, defBody s_wrong_change, defScope s_wrong_change, [], []⟩
def d_need_house : He.DefD := ⟨("need_house", none), "need_house", "need_house", defArgs s_need_house, defBody s_need_house, defScope s_need_house, [], []⟩
def d_need_question : He.DefD := ⟨("need_question", none), "need_question", "need_question", defArgs s_need_question, defBody s_need_question, defScope s_need_question, [], []⟩
def d_is_window : He.DefD := ⟨("is_window", none), "is_window", "is_window", defArgs s_is_window, defBody s_is_window, defScope s_is_window, [], []⟩
def d_need_view : He.DefD := ⟨("need_view", none), "need_view", "need_view", defArgs s_need_view, defBody s_need_view, defScope s_need_view, [], []⟩
def d_cell_view : He.DefD := ⟨("cell_view", none), "cell_view", "cell_view", defArgs s_cell_view, defBody s_cell_view, defScope s_cell_view, [], []⟩
def d_seen_at : He.DefD := ⟨("seen_at", none), "seen_at", "seen_at", defArgs s_seen_at, defBody s_seen_at, defScope s_seen_at, [], []⟩
def d_shown_contents : He.DefD := ⟨("shown_contents", none), "shown_contents", "shown_contents", defArgs s_shown_contents, defBody s_shown_contents, defScope s_shown_contents, [], []⟩
def d_is_shown : He.DefD := ⟨("is_shown", none), "is_shown", "is_shown", defArgs s_is_shown, defBody s_is_shown, defScope s_is_shown, [], []⟩
def d_need_row : He.DefD := ⟨("need_row", none), "need_row", "need_row", defArgs s_need_row, defBody s_need_row, defScope s_need_row, [], []⟩
def d_need_word : He.DefD := ⟨("need_word", none), "need_word", "need_word", defArgs s_need_word, defBody s_need_word, defScope s_need_word, [], []⟩
def d_need_sight : He.DefD := ⟨("need_sight", none), "need_sight", "need_sight", defArgs s_need_sight, defBody s_need_sight, defScope s_need_sight, [], []⟩
def d_led_lot : He.DefD := ⟨("led_lot", none), "led_lot", "led_lot", defArgs s_led_lot, defBody s_led_lot, defScope s_led_lot, [], []⟩
def d_left_lot : He.DefD := ⟨("left_lot", none), "left_lot", "left_lot", defArgs s_left_lot, defBody s_left_lot, defScope s_left_lot, [], []⟩
def d_dying_lots : He.DefD := ⟨("dying_lots", none), "dying_lots", "dying_lots", defArgs s_dying_lots, defBody s_dying_lots, defScope s_dying_lots, [], []⟩
def d_word_settles : He.DefD := ⟨("word_settles", none), "word_settles", "word_settles", defArgs s_word_settles, defBody s_word_settles, defScope s_word_settles, [], []⟩
def d_shortest_word : He.DefD := ⟨("shortest_word", none), "shortest_word", "shortest_word", defArgs s_shortest_word, defBody s_shortest_word, defScope s_shortest_word, [], []⟩
def d_fewest_looks : He.DefD := ⟨("fewest_looks", none), "fewest_looks", "fewest_looks", defArgs s_fewest_looks, defBody s_fewest_looks, defScope s_fewest_looks, [], []⟩
def d_need_letters : He.DefD := ⟨("need_letters", none), "need_letters", "need_letters", defArgs s_need_letters, defBody s_need_letters, defScope s_need_letters, [], []⟩
def d_has_scattered : He.DefD := ⟨("has_scattered", none), "has_scattered", "has_scattered", defArgs s_has_scattered, defBody s_has_scattered, defScope s_has_scattered, [], []⟩
def d_superword_house : He.DefD := ⟨("superword_house", none), "superword_house", "superword_house", defArgs s_superword_house, defBody s_superword_house, defScope s_superword_house, [], []⟩
def d_need_length : He.DefD := ⟨("need_length", none), "need_length", "need_length", defArgs s_need_length, defBody s_need_length, defScope s_need_length, [], []⟩
def d_settled_tables : He.DefD := ⟨("settled_tables", none), "settled_tables", "settled_tables", defArgs s_settled_tables, defBody s_settled_tables, defScope s_settled_tables, [], []⟩
def d_count_words : He.DefD := ⟨("count_words", none), "count_words", "count_words", defArgs s_count_words, defBody s_count_words, defScope s_count_words, [], []⟩
def d_law_dealt : He.DefD := ⟨("_law_dealt", none), "_law_dealt", "_law_dealt", defArgs s_law_dealt, defBody s_law_dealt, defScope s_law_dealt, [], []⟩
def d_law_any : He.DefD := ⟨("_law_any", none), "_law_any", "_law_any", defArgs s_law_any, defBody s_law_any, defScope s_law_any, [], []⟩
def d_law_of : He.DefD := ⟨("_law_of", none), "_law_of", "_law_of", defArgs s_law_of, defBody s_law_of, defScope s_law_of, [], []⟩
def d_law_word : He.DefD := ⟨("_law_word", none), "_law_word", "_law_word", defArgs s_law_word, defBody s_law_word, defScope s_law_word, [], []⟩
def d_law_told_word : He.DefD := ⟨("_law_told_word", none), "_law_told_word", "_law_told_word", defArgs s_law_told_word, defBody s_law_told_word, defScope s_law_told_word, [], []⟩
def d_law_told_words : He.DefD := ⟨("_law_told_words", none), "_law_told_words", "_law_told_words", defArgs s_law_told_words, defBody s_law_told_words, defScope s_law_told_words, [], []⟩
def d_law_built : He.DefD := ⟨("_law_built", none), "_law_built", "_law_built", defArgs s_law_built, defBody s_law_built, defScope s_law_built, [], []⟩
def d_law_moved : He.DefD := ⟨("_law_moved", none), "_law_moved", "_law_moved", defArgs s_law_moved, defBody s_law_moved, defScope s_law_moved, [], []⟩
def d_law_most : He.DefD := ⟨("_law_most", none), "_law_most", "_law_most", defArgs s_law_most, defBody s_law_most, defScope s_law_most, [], []⟩
def d_law_refused : He.DefD := ⟨("_law_refused", none), "_law_refused", "_law_refused", defArgs s_law_refused, defBody s_law_refused, defScope s_law_refused, [], []⟩
def d_law : He.DefD := ⟨("law", none), "law", "law", defArgs s_law, defBody s_law, defScope s_law, [], []⟩
def d_Houseinit : He.DefD := ⟨("House", some "__init__"), "__init__", "House.__init__", defArgs s_Houseinit, defBody s_Houseinit, defScope s_Houseinit, [.non, .adr (He.dflAt ("House", some "__init__") 1)], []⟩
def d_Houseeq : He.DefD := ⟨("House", some "__eq__"), "__eq__", "House.__eq__", defArgs s_Houseeq, defBody s_Houseeq, defScope s_Houseeq, [], []⟩
def d_Houselen : He.DefD := ⟨("House", some "__len__"), "__len__", "House.__len__", defArgs s_Houselen, defBody s_Houselen, defScope s_Houselen, [], []⟩
def fn : List He.DefD := [d_is_integer, d_is_number, d_is_sequence, d_wrong_size, d_fits_sizes, d_wrong_standing, d_wrong_change, d_need_house, d_need_question, d_is_window, d_need_view, d_cell_view, d_seen_at, d_shown_contents, d_is_shown, d_need_row, d_need_word, d_need_sight, d_led_lot, d_left_lot, d_dying_lots, d_word_settles, d_shortest_word, d_fewest_looks, d_need_letters, d_has_scattered, d_superword_house, d_need_length, d_settled_tables, d_count_words, d_law_dealt, d_law_any, d_law_of, d_law_word, d_law_told_word, d_law_told_words, d_law_built, d_law_moved, d_law_most, d_law_refused, d_law, d_Houseinit, d_Houseeq, d_Houselen]
def fa0 : List He.Fa := [.glo "is_integer", .glo "is_number", .glo "is_sequence", .glo "wrong_size", .glo "fits_sizes", .glo "wrong_standing", .glo "wrong_change", .glo "need_house", .glo "need_question", .glo "is_window", .glo "need_view", .glo "cell_view", .glo "seen_at", .glo "shown_contents", .glo "is_shown", .glo "need_row", .glo "need_word", .glo "need_sight", .glo "led_lot", .glo "left_lot", .glo "dying_lots", .glo "word_settles", .glo "shortest_word", .glo "fewest_looks", .glo "need_letters", .glo "has_scattered", .glo "superword_house", .glo "need_length", .glo "settled_tables", .glo "count_words"]
def fa1 : List He.Fa := [.glo "_law_dealt", .glo "_law_any", .glo "_law_of", .glo "_law_word", .glo "_law_told_word", .glo "_law_told_words", .glo "_law_built", .glo "_law_moved", .glo "_law_most", .glo "_law_refused", .glo "law", .glo "House", .glo "Refused", .free "isinstance", .free "int", .free "bool", .free "list", .free "tuple", .free "len", .free "range", .free "enumerate", .free "zip", .free "all", .free "any", .free "sorted", .free "sum", .free "abs", .free "min", .free "repr", .int "MOST_CELLS" 6]
def fa2 : List He.Fa := [.int "MOST_CONTENTS" 36, .int "MOST_STANDINGS" 300, .int "MOST_TIMES" 5, .cls "House", .mkr "House", .keep "House", .noat "House" "sizes", .noat "House" "standings", .noat "House" "changes", .noat "House" "ahead", .noat "House" "behind", .meth "House" "__eq__", .meth "House" "__len__", .meth "House" "__init__", .keep "Refused"]
def fa : List He.Fa := fa0 ++ fa1 ++ fa2
def names0 : List PySem.Str := ["HouseError", "InvalidHouse", "InvalidStanding", "InvalidQuestion", "InvalidView", "InvalidLook", "InvalidRow", "Refused", "InvalidSize", "is_integer", "is_number", "is_sequence", "MOST_CELLS", "MOST_CONTENTS", "MOST_STANDINGS", "all_standings", "standings_count", "wrong_size", "fits_sizes", "wrong_standing", "wrong_change", "House", "need_house", "need_number", "need_question", "is_window", "need_view", "cell_view", "seen_at", "shown_contents"]
def names1 : List PySem.Str := ["is_shown", "need_row", "need_word", "need_sight", "led_lot", "left_lot", "dying_lots", "word_settles", "shortest_word", "fewest_looks", "MOST_TIMES", "need_letters", "has_scattered", "superword_house", "need_length", "settled_tables", "count_words", "_law_dealt", "_law_any", "_law_of", "_law_word", "_law_told_word", "_law_told_words", "_law_built", "_law_moved", "_law_most", "_law_refused"]
def names : List PySem.Str := names0 ++ names1

abbrev cH (K : PySem.W.Frag) : Addr := He.ga K "House"
abbrev cR (K : PySem.W.Frag) : Addr := He.ga K "Refused"
/-- what the module's names stand for -/
structure Gs (K : PySem.W.Frag) (mg : Str → Option Value) : Prop where
  m_isinstance : mg "isinstance" = none
  m_int : mg "int" = none
  m_bool : mg "bool" = none
  m_list : mg "list" = none
  m_tuple : mg "tuple" = none
  m_len : mg "len" = none
  m_range : mg "range" = none
  m_enumerate : mg "enumerate" = none
  m_zip : mg "zip" = none
  m_all : mg "all" = none
  m_any : mg "any" = none
  m_sorted : mg "sorted" = none
  m_sum : mg "sum" = none
  m_abs : mg "abs" = none
  m_min : mg "min" = none
  m_repr : mg "repr" = none
  c_MOST_CELLS : ∃ t, mg "MOST_CELLS" = some (.int 6 t)
  c_MOST_CONTENTS : ∃ t, mg "MOST_CONTENTS" = some (.int 36 t)
  c_MOST_STANDINGS : ∃ t, mg "MOST_STANDINGS" = some (.int 300 t)
  c_MOST_TIMES : ∃ t, mg "MOST_TIMES" = some (.int 5 t)
  g_House : mg "House" = some (.ref (cH K))
  g_Refused : mg "Refused" = some (.ref (cR K))
  cls : Cls K (cH K)
  mkH : Mk K (cH K) (He.ma K (cH K) "__init__")
  kH : PySem.W.keepIn K (.ref (cH K)) = true
  n_sizes : NoAttr K (cH K) "sizes"
  n_standings : NoAttr K (cH K) "standings"
  n_changes : NoAttr K (cH K) "changes"
  n_ahead : NoAttr K (cH K) "ahead"
  n_behind : NoAttr K (cH K) "behind"
  t_eq : Meth K (cH K) "__eq__" (He.ma K (cH K) "__eq__")
  t_len : Meth K (cH K) "__len__" (He.ma K (cH K) "__len__")
  insH : C8.InsC K (cH K)
  nfH : PySem.W.notFirst K (cH K) (.ref (cH K)) = true
theorem gs_of {K : PySem.W.Frag} {h : Heap} {mg : Str → Option Value} (X : K.In h) (G : h.Ns mainGlobals mg) (c : He.SaysD fa fn K) (hi : C8.InsC K (cH K)) (hn : PySem.W.notFirst K (cH K) (.ref (cH K)) = true) : Gs K mg where
  insH := hi
  nfH := hn
  m_isinstance := He.free_ok X G (c.fact 43 (f := .free "isinstance") rfl)
  m_int := He.free_ok X G (c.fact 44 (f := .free "int") rfl)
  m_bool := He.free_ok X G (c.fact 45 (f := .free "bool") rfl)
  m_list := He.free_ok X G (c.fact 46 (f := .free "list") rfl)
  m_tuple := He.free_ok X G (c.fact 47 (f := .free "tuple") rfl)
  m_len := He.free_ok X G (c.fact 48 (f := .free "len") rfl)
  m_range := He.free_ok X G (c.fact 49 (f := .free "range") rfl)
  m_enumerate := He.free_ok X G (c.fact 50 (f := .free "enumerate") rfl)
  m_zip := He.free_ok X G (c.fact 51 (f := .free "zip") rfl)
  m_all := He.free_ok X G (c.fact 52 (f := .free "all") rfl)
  m_any := He.free_ok X G (c.fact 53 (f := .free "any") rfl)
  m_sorted := He.free_ok X G (c.fact 54 (f := .free "sorted") rfl)
  m_sum := He.free_ok X G (c.fact 55 (f := .free "sum") rfl)
  m_abs := He.free_ok X G (c.fact 56 (f := .free "abs") rfl)
  m_min := He.free_ok X G (c.fact 57 (f := .free "min") rfl)
  m_repr := He.free_ok X G (c.fact 58 (f := .free "repr") rfl)
  c_MOST_CELLS := He.int_ok X G (c.fact 59 (f := .int "MOST_CELLS" 6) rfl)
  c_MOST_CONTENTS := He.int_ok X G (c.fact 60 (f := .int "MOST_CONTENTS" 36) rfl)
  c_MOST_STANDINGS := He.int_ok X G (c.fact 61 (f := .int "MOST_STANDINGS" 300) rfl)
  c_MOST_TIMES := He.int_ok X G (c.fact 62 (f := .int "MOST_TIMES" 5) rfl)
  g_House := He.glo_ok X G (c.fact 41 (f := .glo "House") rfl)
  g_Refused := He.glo_ok X G (c.fact 42 (f := .glo "Refused") rfl)
  cls := He.cls_ok (c.fact 63 (f := .cls "House") rfl)
  mkH := He.mkr_ok (c.fact 64 (f := .mkr "House") rfl)
  kH := He.keep_ok (c.fact 65 (f := .keep "House") rfl)
  n_sizes := He.noat_ok (c.fact 66 (f := .noat "House" "sizes") rfl)
  n_standings := He.noat_ok (c.fact 67 (f := .noat "House" "standings") rfl)
  n_changes := He.noat_ok (c.fact 68 (f := .noat "House" "changes") rfl)
  n_ahead := He.noat_ok (c.fact 69 (f := .noat "House" "ahead") rfl)
  n_behind := He.noat_ok (c.fact 70 (f := .noat "House" "behind") rfl)
  t_eq := He.meth_ok (c.fact 71 (f := .meth "House" "__eq__") rfl)
  t_len := He.meth_ok (c.fact 72 (f := .meth "House" "__len__") rfl)
abbrev FnP (K : PySem.W.Frag) (x : Str) (st : Stmt) (f : Addr) (fd : FuncData) : Prop := FunD K x x (defArgs st) (defBody st) (defScope st) [] [] f fd
/-- a def stands at its name -/
structure At (K : PySem.W.Frag) (mg : Str → Option Value) (x : Str) (st : Stmt) : Prop where
  ex : ∃ f fd, FnP K x st f fd ∧ mg x = some (.ref f)
section
variable {P : Program} {w : World} {K : PySem.W.Frag} {mg : Str → Option Value} {base : Heap}
theorem mk_cal {x : Str} {st : Stmt} {N ps : List Str} {k : Nat} {sp : Sp} (F : At K mg x st) (S : FnScope N ps (defScope st)) (len : ∀ vs H Q E, sp vs H Q E → vs.length = ps.length)
    (hb : ∀ (oc pm doc : Value) (an : Option Addr) (cdv ct : Value) (us : List Value), us.length = ps.length → bindArgs (PySem.W.fnOf x x (defArgs st) (defBody st) (defScope st) .none oc pm doc an cdv ct) ⟨us, []⟩ = pure (ps.zip us))
    (hbody : ∀ (cdv : Value) (A : Around) (outer : List Env) (s : Shared) (H : Hp) (vs : List V) (Q : VK) (E : XK) (f : Addr), Room k (A.deeper (envOfC x (defScope st) s.heap.objs.size f cdv)) → sp vs H Q E →
      ∃ t, PSs (cxOf CX0 P w K mg base N x (defScope st) f cdv A outer s H E).nox (defBody st) t ∧ t { nx := fun _ H' => Q .non H', rt := Q } (start N vs) H) : C8.Cal P w K mg base (k + 1) x sp [] := by
  obtain ⟨f, fd, F, gf⟩ := F.ex
  refine ⟨f, fd, ps, [], F.ok S len fun cdv A outer s H vs Q E hr h => ?_, gf, F.kp, F.bindsN hb, .nil⟩
  obtain ⟨t, h1, h2⟩ := hbody cdv A outer s H vs Q E f hr h
  exact ⟨t, h1.nox, h2⟩
theorem hu64 {A : Around} {k : Nat} (hr : Room k A) : A.units + 64 < cLine := by have := hr.un; omega
theorem hu65 {A : Around} {k : Nat} (hr : Room k A) : A.units + 65 < cLine := by have := hr.un; omega
end
end K24
set_option Elab.async false
set_option linter.all false
set_option maxRecDepth 100000
set_option maxHeartbeats 4000000
/-! Own rules, third part: small ones. -/
namespace K24
open PySem PySem.Spec PyProof.Rows L2
def rLn (K : PySem.W.Frag) : List V → Hp → VK → Prop := fun xs H Q => ∃ p ys, xs = [.ref p] ∧ (SqL K H p ys ∨ SqT K H p ys) ∧ Q (.int ys.length) H
def rAbs : List V → Hp → VK → Prop := fun xs H Q => ∃ i, xs = [.int i] ∧ Q (.int (if i < 0 then -i else i)) H
def rInt1 : List V → Hp → VK → Prop := fun xs H Q => (∃ i, xs = [.int i] ∧ Q (.int i) H) ∨ ∃ k, xs = [.bl k] ∧ Q (.int (if k then 1 else 0)) H
def rSortDI : List V → Hp → VK → Prop := fun xs H Q => ∃ (a : Addr) (kvs : List (Key × V)) (ks : List Int), xs = [.ref a] ∧ Rd H a (.dK kvs) ∧ kvs.map (·.1) = ks.map Sum.inl ∧ ks.length < 64 ∧
    ∀ (ys : List Int) (p : Addr), ys.Perm ks → ys.Pairwise (· ≤ ·) → H p = none → Q (.ref p) (upd H p (.lst (ys.map V.int)))
def rIsC (C : Addr) : List V → Hp → VK → Prop := fun xs H Q => ∃ a dx fs, xs = [.ref a, .ref C] ∧ H a = some (.ins C dx fs) ∧ Q (.bl true) H
def rIsNo : R2 := fun x y H Q => y = .non ∧ Q (.bl (decide (x = .non))) H
def rNotNo : R2 := fun x y H Q => y = .non ∧ Q (.bl (!decide (x = .non))) H
def tTru (K : PySem.W.Frag) (ta : TE) : TT := fun σ H Q => ta σ H fun x H' => ∃ k, TruV K x H' k ∧ Q k H'
/-- sorted of a list of tuples of ints, all of one length and within a bound -/
def rSortTA (K : PySem.W.Frag) : List V → Hp → VK → Prop := fun vs H Q => ∃ (d : Nat) (B : Int), 1 ≤ d ∧ rSortU K d B vs H Q
/-- len of an instance with an own __len__ -/
def rLenH (C : Addr) (sp : Sp) : List V → Hp → VK → Prop := fun xs H Q => ∃ a dx fs, xs = [.ref a] ∧ H a = some (.ins C dx fs) ∧ sp [.ref a] H (fun z H' => ∃ i : Int, z = .int i ∧ 0 ≤ i ∧ i < 2 ^ 62 ∧ Q z H') E0
section
variable {X : Cx}
theorem cr_sortTA : CallR X (.builtin "sorted") (rSortTA X.K) := by
  intro pins s σ H vs us Q I r h
  obtain ⟨d, B, hd, h⟩ := h
  exact cr_sortT hd pins s σ H vs us Q I r h
end
end K24
set_option Elab.async false
set_option linter.all false
set_option maxRecDepth 100000
set_option maxHeartbeats 4000000
namespace K24
open PySem PySem.Spec PyProof.Rows L2
/-! ### a dict display of one pair, its key a tuple -/
def tDOneT (tk tv : TE) : TE := fun σ H Q => ∀ p, H p = none → tk σ (upd H p (.dT [])) fun y H1 => tv σ H1 fun z H2 => H2 p = some (.dT []) ∧
  ∃ (ks : List Key) (b : Addr), y = .ref b ∧ H2 b = some (.tup (ks.map kV)) ∧ Q (.ref p) (upd H2 p (.dT [(ks, z)]))
theorem pe_dOneT {X : Cx} {k v : Expr} {pos : Pos} {tk tv : TE} (hu : X.A.units + 1 < cLine) (hk : PE X k tk) (hv : PE X v tv) : PE X (.Dict [some k] [v] pos) (tDOneT tk tv) := by
  refine ⟨fun pins s σ H Q I q => ?_⟩
  have hn := I.hok.fresh (Nat.le_refl s.heap.objs.size)
  have I1 := I.laid (a := s.heap.objs.size) (o := .dT []) (h' := s.heap.push { cls := .type "dict", data := .dict #[] }) (t' := s.toks) (fun _ _ q => Heap.get?_push_of_some _ q) (Nat.le_refl _) (L2.dt_empty s.heap I.big)
  rw [arm_eval_Dict, show (evalEachOpt [some k] X.env).zip ((evalEach [v] X.env).map fun v => do let x ← v; standAt pos; pure x) = (pairTrees [some k] [v] X.env pos).map fun p => (some p.1, p.2) from rfl, dictDisplay_pairs (pairTrees [some k] [v] X.env pos) (by intro z; cases z) (by show 1 < 17; decide)]
  refine wpAny_bind (wpAny_standAt (wpAny_bind (wpAny_subDictH (knd := tupleKind (mixKind X.prog X.w)) (Q := fun d s' => wpAny (model X.prog X.w) X.A (pure (Value.ref d)) (EP X pins σ Q) X.xe s') (by show X.A.units < cLine; omega) (by show 1 ≤ 15; omega) ?_)))
  refine pairTrees_cons_walk (thn (hk.run pins _ σ _ _ I1 (q _ hn)) fun u s1 ⟨x, H1, I2, rx, q1⟩ => thn (hv.run pins s1 σ H1 _ I2 q1) fun w2 s2 ⟨z, H2, I3, rz, q2⟩ => pairTrees_nil_walk ?_)
  obtain ⟨e, ks, b, ey, eb, q3⟩ := q2
  subst ey
  cases (show u = Value.ref b from rx)
  obtain ⟨z0, hd, xs, r0, dd⟩ := dt_of I3.hok e
  cases r0
  refine ⟨[(ks, b, w2)], ⟨rfl, rfl, key_of I3.hok eb, trivial⟩, dd, fun h' tk dd' hs => wpAny_pure ⟨.ref s.heap.objs.size, _, ?_, rfl, q3⟩⟩
  obtain ⟨oq, es, ep, hq, h2, h3, h4, _, h5⟩ := dd'
  refine d_write I3 (by rw [e]; exact True.intro) hs ⟨oq, hq⟩ ⟨(by show 1 ≤ sizeLine; decide), hd, [(ks, b, w2)], .cons ⟨rfl, ?_, rz⟩ .nil, oq, es, ep, hq, h2, h3, h4, h5⟩
  rw [upd_ne (ne_of eb e (fun z => nomatch z))]
  exact eb
/-! ### len of an instance with an own def for it -/
theorem call_lenH {X : Cx} {k j : Nat} {C : Addr} {sp : Sp} (c : C8.Met X.prog X.w X.K X.mg X.base k C "__len__" sp []) (hr : Room j X.A) (hk : k + 1 ≤ j) : CallR X (.builtin "len") (rLenH C sp) := by
  intro pins s σ H xs us Q I r h
  obtain ⟨a, dx, fs, rfl, ha, q⟩ := h
  obtain ⟨u, rfl, ru⟩ := vals1 r
  cases (show u = Value.ref a from ru)
  obtain ⟨f, fd, ps, ds, cl, me, F, b, d⟩ := c.ex
  cases d
  obtain ⟨mA, O, _, _, _, _⟩ := ins_get I.hok ha
  obtain ⟨od, J, _⟩ := O.look
  obtain ⟨m, hF⟩ := I.fr
  refine PySem.W.len_K hF I.ok.mod.kin J me.at_ me.fn ?_
  have hr2 : Room k X.A.in1 := (hr.mono hk).in1
  have hl : ([Value.ref a] ++ ([] : List Value)).length = ps.length := F.len _ _ _ _ q
  have bt : BindsTo s fd ⟨[Value.ref a], []⟩ (ps.zip ([Value.ref a] ++ [])) := b s [.ref a] I.kIn hl
  refine wpAny_call (codeAny_mono (F.run X.A.in1 X.stack s H ⟨[.ref a], []⟩ _ [.ref a] _ E0 hr2 I.env0.in1 bt (.cons rfl .nil) q) fun r s' hq => ?_)
  cases r with
  | error e => exact False.elim hq
  | ok fl =>
    cases fl with
    | ret u =>
      obtain ⟨z', H', I', rz, i, ei, i0, i1, qz⟩ := I.after hq
      subst ei
      obtain ⟨t, e⟩ := (show ∃ t, u = Value.int i t from rz)
      subst e
      exact ⟨⟨i0, Int.lt_trans i1 (by decide)⟩, .int i, H', I'.tok _, ⟨_, rfl⟩, qz⟩
    | next => exact False.elim hq
    | brk => exact False.elim hq
    | cont => exact False.elim hq
/-! ### == of two instances of one class with an own def for it -/
def rEqH (C : Addr) (sp : Sp) : R2 := fun x y H Q => ∃ a dx fs b dy gs, x = .ref a ∧ y = .ref b ∧ H a = some (.ins C dx fs) ∧ H b = some (.ins C dy gs) ∧ sp [x, y] H Q E0
theorem op_eqH {X : Cx} {k j : Nat} {C : Addr} {sp : Sp} (c : C8.Met X.prog X.w X.K X.mg X.base k C "__eq__" sp []) (hr : Room j X.A) (hk : k ≤ j) (hn : PySem.W.notFirst X.K C (.ref C) = true) : OpR X (compareOp .Eq) (rEqH C sp) := by
  intro pins s σ H x y v u Q I rx ry h
  obtain ⟨a, dx, fs, b, dy, gs, rfl, rfl, ha, hb, q⟩ := h
  cases (show v = Value.ref a from rx)
  cases (show u = Value.ref b from ry)
  obtain ⟨f, fd, ps, ds, cl, me, F, bi, d⟩ := c.ex
  cases d
  obtain ⟨mA, O, _, _, _, _⟩ := ins_get I.hok ha
  obtain ⟨od, J, _⟩ := O.look
  obtain ⟨mB, O', _, _, _, _⟩ := ins_get I.hok hb
  obtain ⟨od', J', _⟩ := O'.look
  obtain ⟨m, hF⟩ := I.fr
  show wpAny _ _ (richCompare .Eq _ _) _ _ _
  refine PySem.W.cmp_K (op := .Eq) (tb := .ref C) hr.units0 hF I.ok.mod.kin J J'.type hn me.at_ me.fn ?_
  have hl : ([Value.ref a, Value.ref b] ++ ([] : List Value)).length = ps.length := F.len _ _ _ _ q
  have bt : BindsTo s fd ⟨[Value.ref a, Value.ref b], []⟩ (ps.zip ([Value.ref a, Value.ref b] ++ [])) := bi s [.ref a, .ref b] I.kIn hl
  refine wpAny_call (codeAny_mono (F.run X.A X.stack s H ⟨[.ref a, .ref b], []⟩ _ [.ref a, .ref b] _ E0 (hr.mono hk) I.env0 bt (.cons rfl (.cons rfl .nil)) q) fun r s' hq => ?_)
  cases r with
  | error e => exact False.elim hq
  | ok fl =>
    cases fl with
    | ret u =>
      obtain ⟨z', H', I', rz, qz⟩ := I.after hq
      exact SlX.cmpback rz ⟨z', H', I', rz, qz⟩
    | next => exact False.elim hq
    | brk => exact False.elim hq
    | cont => exact False.elim hq
/-! ### min of two tuples of ints -/
def rMinT (K : PySem.W.Frag) : List V → Hp → VK → Prop := fun vs H Q => ∃ (a b : Addr) (ns ms : List Int), vs = [.ref a, .ref b] ∧ SqT K H a (ns.map V.int) ∧ SqT K H b (ms.map V.int) ∧ Q (.ref (if HT.lexLt ms ns = true then b else a)) H
theorem args_min_two (a b : Value) : argsOk "min" ⟨[a, b], []⟩ := by unfold argsOk; kernel_rfl
theorem call_minT {X : Cx} (hc : X.calm = true) (hu : X.A.units + 1 < cLine) : CallR X (.builtin "min") (rMinT X.K) := by
  intro pins s σ H vs us Q I r h
  obtain ⟨a, b, ns, ms, rfl, ha, hb, q⟩ := h
  obtain ⟨u1, u2, rfl, r1, r2⟩ := vals2 r
  cases (show u1 = Value.ref a from r1)
  cases (show u2 = Value.ref b from r2)
  obtain ⟨its, v1, p1, _⟩ := I.tuple ha
  obtain ⟨its2, v2, p2, _⟩ := I.tuple hb
  have hh : X.A.handled = none := I.ok.hd hc
  have hname : (toString "min" ++ toString ".loop" : String) = "min.loop" := by decide
  refine call_function_tree F.kind_min F.plain_min F.entry_min (args_min_two _ _) ?_
  show wpAny _ X.A.in1 (Builtin.Builtins.bindParams "min" ["key", "default"] 0 ⟨[], []⟩ >>= _) _ _ s
  refine wpAny_bind (wpAny_of_eq (show Builtin.Builtins.bindParams "min" ["key", "default"] 0 ⟨[], []⟩ = pure [none, none] from rfl) ?_)
  show wpAny _ X.A.in1 (newTuple [Value.ref a, Value.ref b] >>= _) _ _ s
  refine wpAny_bind (wpAny_newTuple ?_ (by show 2 ≤ sizeLine; decide))
  have hT : ({ s with heap := s.heap.push { cls := .type "tuple", data := .seq [Value.ref a, Value.ref b].toArray } } : Shared).heap.IsTuple s.heap.objs.size #[.ref a, .ref b] := ⟨_, Heap.get?_push_size _ rfl, rfl, _, rfl⟩
  refine wpAny_bind (PySem.W.iter_tupleW (A := X.A.in1) hh hT fun s2 e W st hfp hw hk => ?_)
  have k2 : ∀ c o, s.heap.get? c = some o → s2.heap.get? c = some o := fun c o z => hk c o (Heap.get?_push_of_some _ z)
  refine wpAny_bind (wpAny_newObj_type ?_)
  have hcmp : CmpIn X.prog X.w X.A.in1 .Lt s.heap (fun i v => (#[Value.ref a, Value.ref b] : Array Value)[i]? = some v) (fun i j => HT.lexLt (if i = 0 then ns else ms) (if j = 0 then ns else ms)) := by
    intro i j vi vj s' Q' E' hkeep hi hj hq
    have pa : IsTup s'.heap a its.toArray := let ⟨o, e1, e2⟩ := p1; ⟨o, hkeep _ _ e1, e2⟩
    have pb : IsTup s'.heap b its2.toArray := let ⟨o, e1, e2⟩ := p2; ⟨o, hkeep _ _ e1, e2⟩
    have i1 : IntsAre its.toArray.toList ns := intsAre_of v1
    have i2 : IntsAre its2.toArray.toList ms := intsAre_of v2
    have pick : ∀ (i : Nat) (v : Value), (#[Value.ref a, Value.ref b] : Array Value)[i]? = some v → ∃ (c : Addr) (w : Array Value), v = .ref c ∧ IsTup s'.heap c w ∧ IntsAre w.toList (if i = 0 then ns else ms) := by
      intro i v hv
      match i, hv with
      | 0, hv => cases hv; exact ⟨a, _, rfl, pa, i1⟩
      | 1, hv => cases hv; exact ⟨b, _, rfl, pb, i2⟩
      | i + 2, hv => simp at hv
    obtain ⟨c, w1, rfl, pc, jc⟩ := pick i vi hi
    obtain ⟨d, w2, rfl, pd, jd⟩ := pick j vj hj
    exact HT.lt_tupInts pc pd jc jd (by show X.A.units + 1 < cLine; exact hu) hq
  rw [hname]
  refine wpAny_pure ⟨plainId_quiet F.plain_min_loop _, codeAny_min_loop_firstH W s.heap (fun c o z => hw c o (Heap.get?_push_of_some _ z)) _ hcmp s2.heap.objs.size (fun hm => Nat.lt_irrefl _ (hfp _ hm)) (fresh_in k2) _ (by show 0 < 2; omega) (fun c o z => Heap.get?_push_of_some _ (k2 c o z)) (W.frame 0 s2 _ s2.toks st (Nat.le_refl _) fun c _ o z => Heap.get?_push_of_some _ z) (Heap.get?_push_size _ rfl) fun v s' hP hm => ?_⟩
  have m' := Moved.drop_new (tk := s2.toks) hm (Nat.le_refl _)
  obtain ⟨h', tk, rfl, hk'⟩ := PySem.W.moved_old e rfl m'
  have I' : Inv X pins σ H { s with heap := h', toks := tk } := I.kept fun c o z => hk' c o (Heap.get?_push_of_some _ z)
  have hv : v = Value.ref (if HT.lexLt ms ns = true then b else a) := by
    have e1 : (#[Value.ref a, Value.ref b] : Array Value)[argBest (fun i j => HT.lexLt (if i = 0 then ns else ms) (if j = 0 then ns else ms)) 1]? = some v := hP
    have e2 : argBest (fun i j => HT.lexLt (if i = 0 then ns else ms) (if j = 0 then ns else ms)) 1 = if HT.lexLt ms ns = true then 1 else 0 := rfl
    rw [e2] at e1
    by_cases c : HT.lexLt ms ns = true
    · rw [if_pos c] at e1 ⊢
      exact (Option.some.inj e1).symm
    · rw [if_neg c] at e1 ⊢
      exact (Option.some.inj e1).symm
  exact ⟨_, H, I', by rw [hv]; rfl, q⟩
/-! ### a tuple times one -/
def rRepT1 (K : PySem.W.Frag) : R2 := fun x y H Q => ∃ l k xs, x = .ref l ∧ y = .int k ∧ SqT K H l xs ∧ xs ≠ [] ∧ 1 ≤ k ∧ k ≤ 1000 ∧ xs.length ≤ 1000 ∧ (k = 1 → Q (.ref l) H) ∧ (2 ≤ k → ∀ p, H p = none → Q (.ref p) (upd H p (.tup (List.replicate k.toNat xs).flatten)))
theorem tuple_mulOne (l : Addr) (items : Array Value) (n : Nat) (dd : Option Addr) (sl : Array (Option Value)) (u : Tok) :
    Meets (Builtin.«tuple.__mul__» ⟨[.ref l, .int 1 u], []⟩) (fun _ R s => s.heap.get? l = some { cls := .type "tuple", dict := dd, data := .seq items n, slots := sl } ∧ R (.ok (.ret (Value.ref l))) s) :=
  .of_wp fun prog w A R s h => by
    obtain ⟨hp, g, d, tk, os⟩ := s
    obtain ⟨hl, h⟩ := h
    have f1 := AutoSeq1.idx_int
    have c0 : (decide ((1 : Int) < -(2 ^ 63)) || decide ((1 : Int) ≥ 2 ^ 63)) = false := by decide
    have c1 : (items.isEmpty || (1 : Int) == 1) = true := by simp
    wp_walk using wpAny_loadPart' hl
    repeat (first
      | (refine wpAny_ite_false (decide_eq_false (by rw [c0]; exact Bool.false_ne_true)) ?_; wp_walk using wpAny_loadPart' hl)
      | (refine wpAny_ite_true (decide_eq_true (by rw [c1])) ?_; wp_walk using wpAny_loadPart' hl))
    exact ⟨_, rfl, h⟩
theorem op_repT1 {X : Cx} : OpR X (binaryOp .Mult) (rRepT1 X.K) := by
  intro pins s σ H x y v u Q I rx ry h
  obtain ⟨l, k, xs, rfl, rfl, hT, hne, h1, h2, hz, q1, q2⟩ := h
  by_cases hk : k = 1
  · subst hk
    cases rx
    obtain ⟨t, rfl⟩ := ry
    obtain ⟨its, r, ⟨⟨cls, dd, data, sl⟩, ho, hc, n, hd⟩, hs⟩ := I.tuple hT
    simp only at hc hd
    subst hc hd
    refine wpAny_binaryOp_repeat_ref (T := "tuple") (U := "int") (by decide) ⟨_, ho, rfl⟩ (fun s' => typeIs_int s' 1 t) noFill_tuple_mul F.fills_int_mul F.slot_int_rmul repeat_tuple F.slot_int_index.lookup
      (call_meets F.slot_int_rmul (typeIs_int s 1 t) F.entry_int_rmul (F.args_int_rmul_2 _ _) (int_rmul_tuple 1 t l its.toArray n dd sl)
        ⟨ho, rfl, ⟨_, ho, rfl⟩, call_meets F.slot_tuple_mul ⟨_, ho, rfl⟩ F.entry_tuple_mul (F.args_tuple_mul_2 _ _) (tuple_mulOne l its.toArray n dd sl t) ⟨ho, ?_⟩⟩)
    exact ⟨.ref l, H, I, rfl, q1 rfl⟩
  · exact op_repT pins s σ H _ _ v u Q I rx ry ⟨l, k, xs, rfl, rfl, hT, hne, by omega, h2, hz, q2 (by omega)⟩
/-! ### repr of data -/
def rRepr (K : PySem.W.Frag) : List V → Hp → VK → Prop := fun vs H Q => ∃ (v : V) (d : PyData), vs = [v] ∧ Dp K H v d ∧ d.showable = true ∧ d.hasDict = false ∧ d.depth ≤ 64 ∧ d.shown.length ≤ sizeLine ∧ (∀ i, d = .int i → i.natAbs.log2 < 1920) ∧ (∀ x, d ≠ .str x) ∧ Q (.str d.shown) H
theorem call_reprD {X : Cx} (hg : X.A.guards = some []) (hu : X.A.units + 65 < cLine) : CallR X (.builtin "repr") (rRepr X.K) := by
  intro pins s σ H vs us Q I r h
  obtain ⟨v, d, rfl, hd, h1, h2, h3, h4, h5, h6, q⟩ := h
  obtain ⟨u, rfl, ru⟩ := vals1 r
  obtain ⟨as, R⟩ := Dp.reads I d v u hd ru
  have ref : ∀ a, u = Value.ref a → wpAny (model X.prog X.w) X.A (call (.builtin "repr") [u]) (EP X pins σ Q) X.xe s := fun a e => by
    subst e
    exact repr_of_reads' R h1 (PyData.noDict_hsm h2) hg (by omega) (fun _ _ e => e) (fun h' t tk hk => ⟨.str d.shown, H, I.kept hk, ⟨_, rfl⟩, q⟩) h4
  cases hd with
  | non =>
    cases (show u = Value.none from ru)
    exact P.repr_of_none ⟨.str _, H, I.tok _, ⟨_, rfl⟩, q⟩
  | bl b =>
    cases (show u = Value.bool b from ru)
    refine P.repr_of_bool ⟨.str _, H, I.tok _, ⟨_, rfl⟩, ?_⟩
    cases b <;> exact q
  | int i =>
    obtain ⟨t, rfl⟩ := (show ∃ t, u = Value.int i t from ru)
    exact P.repr_of_int (h5 i rfl) ⟨.str _, H, I.tok _, ⟨_, rfl⟩, q⟩
  | str x => exact absurd rfl (h6 x)
  | lst hs ha => exact ref _ ru
  | tup hs ha => exact ref _ ru
end K24
set_option Elab.async false
set_option linter.all false
set_option maxRecDepth 100000
set_option maxHeartbeats 4000000
namespace K24
open PySem PySem.Spec PyProof.Rows L2
section
variable {X : Cx} {CX : CXT} {k : Nat} {f : Addr} {fd : FuncData} {ps ks : List Str} {sp : Sp} {E : XK} {x : Str} {p pos : Pos} {kws : List Keyword} {tk : TA} {g : List Value → List Value → List Value} {gV : List V → List V → List V}
/-- a call by keywords alone -/
theorem pe_callK0 (F : FnOk X.prog X.w X.K X.mg X.base CX k f fd ps sp) (hr : Room k X.A) (hg : Gl X x) (hm : X.mg x = some (.ref f)) (hk : PySem.W.keepIn X.K (.ref f) = true) (hb : KBinds X.K fd ps ks g gV) (hx : Passes CX X E)
    (hkw : PK X kws tk) (hall : (backToKw pos (keywordEach kws X.env)).all (·.1.isSome) = true := by rfl) (hks : (backToKw pos (keywordEach kws X.env)).filterMap (·.1) = ks := by rfl)
    (hdb : (x == ("__debug__" : Str)) = false := by decide)
    (hpl : ((backTo pos (starEach [] X.env)).any (·.1) || (backToKw pos (keywordEach kws X.env)).any (·.1.isNone)) = false := by rfl) :
    PE X (.Call (.Name x p) [] kws pos) (tCallK sp gV E tNil tk) := by
  refine ⟨fun pins s σ H Q I h => ?_⟩
  refine wpAny_Call_Name_kw (ld_glob I hg hm ?_ hdb)
  refine PySem.W.callWith_KW0 (h₀ := X.base) I.ok.mod.kin hk hall (thn (hkw.run pos pins s σ H _ I h) fun ws s2 ⟨zs, H2, I2, rz, q2⟩ => ⟨I2.kIn, ?_⟩) hpl
  rw [hks]
  exact run_fnk F hr hb hx I2 .nil rz q2
end

theorem hu2' {A : Around} {k : Nat} (hr : Room k A) : A.units + 2 < cLine := by have := hr.un; omega
section
variable {X : Cx}
/-- y = {k: v for ..} -/
theorem ps_setDc {i : Nat} {y : Str} {py : Pos} {kx vx tg iter : Expr} {ifs : List Expr} {scope : Scope} {own : List (Str × Nat)} {pos spos : Pos} {wi : TI} {g : TG} {tt : TT} {tk tv : TE} (hc : X.calm = true) (hN : X.N.Nodup) (hy : X.N[i]? = some y) (hyl : X.env.scope.names.lookup y = some .local)
    (hsw : swapsWith (.DictComp kx vx [⟨tg, iter, ifs, 0⟩] scope pos) (some (.Name y py)) spos.line X.env = pure true) (hi : PI X tg iter wi) (ok : BlkOk X.N X.env.scope scope own)
    (hg : ∀ (s : Shared) (H : Hp) (C : Addr) (cl : List (Str × Addr)) (fp : List Addr), PG (X.blk s H scope (compEnvC scope cl C X.env) fp) tg g) (ht : ∀ (s : Shared) (H : Hp) (C : Addr) (cl : List (Str × Addr)) (fp : List Addr), PTs (X.blk s H scope (compEnvC scope cl C X.env) fp) ifs tt)
    (hk : ∀ (s : Shared) (H : Hp) (C : Addr) (cl : List (Str × Addr)) (fp : List Addr), PE (X.blk s H scope (compEnvC scope cl C X.env) fp) kx tk)
    (he : ∀ (s : Shared) (H : Hp) (C : Addr) (cl : List (Str × Addr)) (fp : List Addr), PE (X.blk s H scope (compEnvC scope cl C X.env) fp) vx tv) (hs : ∀ x, foldedSetIterable iter X.env x = pure x := by intro _; rfl) :
    PS X (.Assign [.Name y py] (.DictComp kx vx [⟨tg, iter, ifs, 0⟩] scope pos) spos) (tAsg (tDc wi g tt tk tv (own.map (·.2))) (gName i)) := by
  refine ⟨fun pins s σ H D I h => ?_⟩
  rw [exec_Assign_Name_used _ _ _ _ hsw]
  refine wpAny_bind (wpAny_standAt (wpAny_bind ?_))
  show wpAny _ X.A (do let _ ← comprehension (.DictComp kx vx [⟨tg, iter, ifs, 0⟩] scope pos) scope X.env (firstIterPos [⟨tg, iter, ifs, 0⟩] pos) newDict false (eval iter X.env) (some (assign (.Name y py) X.env))) _ _ s
  have h : tDc wi g tt tk tv (own.map (·.2)) σ H (fun x H1 => gName i x σ H1 D.nx) := h
  refine wpAny_bind (thn (dc_core (Qf := fun _ s' => SP X pins D .next s') hc hN I hi ok hg ht hk he hs h fun L C s' m H' I' q hn f => ?_) fun _ s' hq => wpAny_pure (wpAny_pure hq))
  show wpAny _ _ (assign (.Name y py) X.env (.ref L)) _ _ _
  refine wpAny_assign_Name (store_ok2 (v := V.ref L) I' hN hy (.inl hyl) rfl (fun s2 I2 ⟨a, sb, ha⟩ => ?_) (.inr hyl))
  obtain ⟨f0, f1, f2, f3, f4, f5⟩ := f
  have haC : C ≠ a := by
    rcases ha with z | z
    · rw [z]; exact f1
    · exact fun e => f4 y a z e.symm
  refine ⟨m, hn.sameBut sb haC, fun h3 sb3 => ?_⟩
  exact ⟨_, H', I2.turned (t' := s2.toks) (fun b o hb e => (sb3.2 b hb).trans e) f0 f1 f3 f4 f5, q⟩
theorem sw_trueD {kx vx : Expr} {gs : List Comprehension} {scope : Scope} {pos py : Pos} {y : Str} {l : Nat} {env : Env} (hk : env.scope.kind = .function) (hy : env.scope.names.lookup y = some .local) (hl : (py.line == pos.line) = true)
    (ha : (scope.names.any fun (n, k) => n == y && (k == .local || k == .cell)) = false) : swapsWith (.DictComp kx vx gs scope pos) (some (.Name y py)) l env = pure true := by
  have ky : env.kindOf y = some .local := hy
  have hb : env.blockKind = .function := by unfold Env.blockKind; rw [hk]; rfl
  unfold swapsWith
  simp only [hb, ky, ha, Expr.pos, hl]
  rfl
end
end K24
set_option Elab.async false
set_option linter.all false
set_option maxRecDepth 100000
set_option maxHeartbeats 4000000
/-! Heaps: what tuples, lists, a House are; walks; comprehensions in short. -/
namespace K24
open PySem PySem.Spec PyProof.Rows L2
/-! ### relations of heaps -/
def Imm : HO → Prop
  | .tup _ => True
  | .ins _ _ _ => True
  | _ => False
/-- tuples and instances are as they were -/
def SmI (H H' : Hp) : Prop := ∀ b o, Imm o → H b = some o → H' b = some o
theorem SmI.refl (H : Hp) : SmI H H := fun _ _ _ h => h
theorem SmI.trans {H H1 H2 : Hp} (a : SmI H H1) (b : SmI H1 H2) : SmI H H2 := fun c o i h => b c o i (a c o i h)
theorem smi {H H' : Hp} (s : Same H H') : SmI H H' := fun b o _ h => s b o h
theorem smi_upd {H : Hp} {a : Addr} {o u : HO} (h : H a = some o) (n : ¬ Imm o) : SmI H (upd H a u) := fun b x i e => by
  rw [upd_ne]
  · exact e
  · intro z; subst z; rw [h] at e; cases e; exact n i
theorem smi_lst {H : Hp} {a : Addr} {xs : List V} {u : HO} (h : H a = some (.lst xs)) : SmI H (upd H a u) := smi_upd h (fun z => z)
theorem smi_dT {H : Hp} {a : Addr} {xs : List (List Key × V)} {u : HO} (h : H a = some (.dT xs)) : SmI H (upd H a u) := smi_upd h (fun z => z)
theorem smi_dK {H : Hp} {a : Addr} {xs : List (Key × V)} {u : HO} (h : H a = some (.dK xs)) : SmI H (upd H a u) := smi_upd h (fun z => z)
theorem same_new {H : Hp} {p : Addr} {o : HO} (h : H p = none) : Same H (upd H p o) := fun b x e => by
  rw [upd_ne (ne_of_none e h)]
  exact e
/-- a write at a place that the first heap does not know -/
theorem same_out {H0 H : Hp} {p : Addr} {o : HO} (s : Same H0 H) (h : H0 p = none) : Same H0 (upd H p o) := fun b x e => by
  rw [upd_ne (ne_of_none e h)]
  exact s _ _ e
theorem same_none {H H' : Hp} {p : Addr} (s : Same H H') (h : H' p = none) : H p = none := s.free h
/-! ### values -/
abbrev nV (n : Nat) : V := .int (n : Int)
def NL (ns : List Nat) : List V := ns.map nV
theorem nl_len (ns : List Nat) : (NL ns).length = ns.length := by unfold NL; rw [List.length_map]
theorem nl_get {ns : List Nat} {i : Nat} {n : Nat} (h : ns[i]? = some n) : (NL ns)[i]? = some (nV n) := by unfold NL; rw [List.getElem?_map, h]; rfl
theorem nl_int (ns : List Nat) : NL ns = (ns.map (fun n : Nat => (n : Int))).map V.int := by unfold NL; rw [List.map_map]; rfl
theorem nl_inj {a b : List Nat} (h : NL a = NL b) : a = b := by
  have inj : ∀ x y : Nat, nV x = nV y → x = y := fun x y e => Int.ofNat.inj (V.int.inj e)
  unfold NL at h
  exact (List.map_inj_right inj).mp h
def kN (ns : List Nat) : List Key := ns.map fun n : Nat => Sum.inl (n : Int)
theorem kN_map (ns : List Nat) : (kN ns).map kV = NL ns := by unfold kN NL; rw [List.map_map]; rfl
theorem kN_inj {a b : List Nat} (h : kN a = kN b) : a = b := by
  apply nl_inj
  rw [← kN_map, ← kN_map, h]
abbrev Rl (α : Type) := Hp → V → α → Prop
def Nm : Rl Nat := fun _ v n => v = nV n
def Tp {α : Type} (R : Rl α) : Rl (List α) := fun H v xs => ∃ a vs, v = .ref a ∧ H a = some (.tup vs) ∧ Paired (R H) vs xs
def Ls {α : Type} (R : Rl α) : Rl (List α) := fun H v xs => ∃ a vs, v = .ref a ∧ H a = some (.lst vs) ∧ Paired (R H) vs xs
def TN : Rl (List Nat) := fun H v ns => ∃ a, v = .ref a ∧ H a = some (.tup (NL ns))
def LN : Rl (List Nat) := fun H v ns => ∃ a, v = .ref a ∧ H a = some (.lst (NL ns))
abbrev TTN : Rl (List (List Nat)) := Tp TN
/-- tuples alone -/
class ImmR {α : Type} (R : Rl α) : Prop where
  mono : ∀ {H H' : Hp} {v : V} {x : α}, SmI H H' → R H v x → R H' v x
class SamR {α : Type} (R : Rl α) : Prop where
  mono : ∀ {H H' : Hp} {v : V} {x : α}, Same H H' → R H v x → R H' v x
instance {α : Type} {R : Rl α} [ImmR R] : SamR R := ⟨fun s h => ImmR.mono (smi s) h⟩
instance : ImmR Nm := ⟨fun _ h => h⟩
instance : ImmR TN := ⟨fun s ⟨a, e, h⟩ => ⟨a, e, s _ _ trivial h⟩⟩
instance {α : Type} {R : Rl α} [ImmR R] : ImmR (Tp R) := ⟨fun s ⟨a, vs, e, h, p⟩ => ⟨a, vs, e, s _ _ trivial h, L2.Paired.mapP p fun _ _ q => ImmR.mono s q⟩⟩
instance {α : Type} {R : Rl α} [SamR R] : SamR (Ls R) := ⟨fun s ⟨a, vs, e, h, p⟩ => ⟨a, vs, e, s _ _ h, L2.Paired.mapP p fun _ _ q => SamR.mono s q⟩⟩
instance : SamR LN := ⟨fun s ⟨a, e, h⟩ => ⟨a, e, s _ _ h⟩⟩
theorem Paired.len {α β : Type} {F : α → β → Prop} : ∀ {xs : List α} {ys : List β}, Paired F xs ys → xs.length = ys.length
  | _, _, .nil => rfl
  | _, _, .cons _ t => by rw [List.length_cons, List.length_cons, Paired.len t]
theorem Paired.get {α β : Type} {F : α → β → Prop} : ∀ {xs : List α} {ys : List β}, Paired F xs ys → ∀ {i : Nat} {y : β}, ys[i]? = some y → ∃ x, xs[i]? = some x ∧ F x y
  | _, _, .nil, i, y, h => by simp at h
  | _, _, .cons q t, 0, y, h => by simp at h; subst h; exact ⟨_, rfl, q⟩
  | _, _, .cons q t, i + 1, y, h => by
    simp only [List.getElem?_cons_succ] at h ⊢
    exact Paired.get t h
theorem Paired.get' {α β : Type} {F : α → β → Prop} : ∀ {xs : List α} {ys : List β}, Paired F xs ys → ∀ {i : Nat} {x : α}, xs[i]? = some x → ∃ y, ys[i]? = some y ∧ F x y
  | _, _, .nil, i, y, h => by simp at h
  | _, _, .cons q t, 0, y, h => by simp at h; subst h; exact ⟨_, rfl, q⟩
  | _, _, .cons q t, i + 1, y, h => by
    simp only [List.getElem?_cons_succ] at h ⊢
    exact Paired.get' t h
theorem Paired.of_get {α β : Type} {F : α → β → Prop} : ∀ {xs : List α} {ys : List β}, xs.length = ys.length → (∀ (i : Nat) (x : α) (y : β), xs[i]? = some x → ys[i]? = some y → F x y) → Paired F xs ys
  | [], [], _, _ => .nil
  | [], _ :: _, h, _ => by cases h
  | _ :: _, [], h, _ => by cases h
  | x :: xs, y :: ys, h, f => .cons (f 0 x y rfl rfl) (Paired.of_get (by simpa using h) fun i a b ha hb => f (i + 1) a b ha hb)
theorem nm_paired {H : Hp} {vs : List V} {ns : List Nat} : Paired (Nm H) vs ns ↔ vs = NL ns := by
  constructor
  · intro p
    induction p with
    | nil => rfl
    | cons q t ih => rw [ih, show _ = _ from q]; rfl
  · intro e
    subst e
    induction ns with
    | nil => exact .nil
    | cons n r ih => exact .cons rfl ih
theorem tn_tp {H : Hp} {v : V} {ns : List Nat} : Tp Nm H v ns ↔ TN H v ns := by
  constructor
  · rintro ⟨a, vs, e, h, p⟩
    rw [nm_paired.mp p] at h
    exact ⟨a, e, h⟩
  · rintro ⟨a, e, h⟩
    exact ⟨a, _, e, h, nm_paired.mpr rfl⟩
theorem ln_ls {H : Hp} {v : V} {ns : List Nat} : Ls Nm H v ns ↔ LN H v ns := by
  constructor
  · rintro ⟨a, vs, e, h, p⟩
    rw [nm_paired.mp p] at h
    exact ⟨a, e, h⟩
  · rintro ⟨a, e, h⟩
    exact ⟨a, _, e, h, nm_paired.mpr rfl⟩
/-! ### walks -/
structure Iw (J : It) (g : TG) (n : Nat) (sf : Nat → L2.St → L2.St) (G : Hp → Prop) : Prop where
  go : ∀ i H, i < n → G H → J.go i H
  stop : ∀ H, G H → J.stop n H
  yld : ∀ i σ H x H', i < n → G H → J.yld i H x H' → ∀ k : L2.St → Hp → Prop, (∀ H2, Same H H2 → k (sf i σ) H2) → g x σ H' k
section
variable {K : PySem.W.Frag} {a b : Addr} {k l : Kd} {xs ys : List V} {p q : Nat}
theorem get_getD {xs : List V} {i : Nat} {x : V} (h : xs[i]? = some x) : xs.getD i .non = x := by rw [List.getD_eq_getElem?_getD, h]; rfl
theorem lt_get {α : Type} {xs : List α} {i : Nat} (h : i < xs.length) : ∃ x, xs[i]? = some x := ⟨xs[i], by simp [h]⟩
theorem iw_seq : Iw (ItS K a k) (gName p) xs.length (fun i σ => σ.set p (some (xs.getD i .non))) (fun H => Sq K H a xs k) := by
  cases k with
  | L => exact ⟨fun i H hi h => ⟨xs, xs[i], h, by simp [hi]⟩, fun H h => ⟨xs, h, Nat.le_refl _⟩, fun i σ H x H' hi h y k hk => by
      obtain ⟨e, y⟩ := y
      subst e
      have := get_getD (y xs h)
      subst this
      exact hk _ (Same.refl _)⟩
  | T => exact ⟨fun i H hi h => ⟨xs, xs[i], h, by simp [hi]⟩, fun H h => ⟨xs, h, Nat.le_refl _⟩, fun i σ H x H' hi h y k hk => by
      obtain ⟨e, y⟩ := y
      subst e
      have := get_getD (y xs h)
      subst this
      exact hk _ (Same.refl _)⟩
theorem iw_enum : Iw (ItE K a k) (gTup K 2 (gCons (gName p) (gCons (gName q) gNil))) xs.length (fun i σ => (σ.set p (some (.int (i : Nat)))).set q (some (xs.getD i .non))) (fun H => Sq K H a xs k) := by
  refine ⟨fun i H hi h => ⟨xs, xs[i], h, by simp [hi]⟩, fun H h => ⟨xs, h, rfl⟩, fun i σ H x H' hi h y k hk => ?_⟩
  obtain ⟨T, z, rfl, nT, rfl, y⟩ := y
  have := get_getD (y xs h)
  subst this
  exact ⟨T, _, rfl, .inl (.inl upd_same), rfl, _, _, rfl, _, _, rfl, rfl, hk _ (same_new nT)⟩
theorem iw_zip {n : Nat} (hn : n = min xs.length ys.length) : Iw (ItZ K a b k l) (gTup K 2 (gCons (gName p) (gCons (gName q) gNil))) n (fun i σ => (σ.set p (some (xs.getD i .non))).set q (some (ys.getD i .non))) (fun H => Sq K H a xs k ∧ Sq K H b ys l) := by
  subst hn
  refine ⟨fun i H hi h => ?_, fun H h => ?_, fun i σ H x H' hi h y k hk => ?_⟩
  · have h1 : i < xs.length := by omega
    have h2 : i < ys.length := by omega
    exact ⟨xs, ys, xs[i], ys[i], h.1, h.2, by simp [h1], by simp [h2]⟩
  · exact ⟨xs, ys, h.1, h.2, Nat.min_le_left _ _, Nat.min_le_right _ _, by omega⟩
  · obtain ⟨T, z, z2, rfl, nT, rfl, y, y2⟩ := y
    have := get_getD (y xs h.1)
    subst this
    have := get_getD (y2 ys h.2)
    subst this
    exact ⟨T, _, rfl, .inl (.inl upd_same), rfl, _, _, rfl, _, _, rfl, rfl, hk _ (same_new nT)⟩
theorem iw_range {lo : Int} {n : Nat} : Iw (Itr lo n) (gName p) n (fun i σ => σ.set p (some (.int (lo + (i : Nat))))) (fun _ => True) :=
  ⟨fun i H hi _ => hi, fun _ _ => Nat.le_refl _, fun i σ H x H' hi _ y k hk => by
    obtain ⟨e, e2⟩ := y
    subst e e2
    exact hk _ (Same.refl _)⟩
end
section
variable {J : It} {g : TG} {n : Nat} {sf : Nat → L2.St → L2.St} {G : Hp → Prop}
theorem for_go (w : Iw J g n sf G) {tb : TS} {D : Ends} {σ : L2.St} {H : Hp} (Pv : Nat → L2.St → Hp → Prop) (h0 : Pv 0 σ H) (hG : ∀ i σ H, i ≤ n → Pv i σ H → G H)
    (hs : ∀ i σ H H2, i < n → Pv i σ H → Same H H2 → tb { D with nx := Pv (i + 1), ct := Pv (i + 1), bk := D.nx } (sf i σ) H2) (hd : ∀ σ H, Pv n σ H → D.nx σ H) :
    ∃ W : Nat → Nat → L2.St → Hp → Prop, (∃ m, W 0 m σ H) ∧ ∀ i m σ H, W i m σ H →
      (J.stop i H ∧ D.nx σ H) ∨ (J.go i H ∧ ∃ N : L2.St → Hp → Prop, (∀ σ' H', N σ' H' → ∃ m', m' < m ∧ W (i + 1) m' σ' H') ∧ ∀ x H', J.yld i H x H' → g x σ H' fun σ2 H2 => tb { D with nx := N, ct := N, bk := D.nx } σ2 H2) := by
  refine ⟨fun i m σ H => m = n - i ∧ i ≤ n ∧ Pv i σ H, ⟨n, by simp, Nat.zero_le _, h0⟩, ?_⟩
  rintro i m σ H ⟨rfl, hi, p⟩
  have q := hG i σ H hi p
  by_cases hlt : i < n
  · exact .inr ⟨w.go i H hlt q, Pv (i + 1), fun σ' H' p' => ⟨n - (i + 1), by omega, rfl, hlt, p'⟩, fun x H' y => w.yld i σ H x H' hlt q y _ fun H2 s => hs i σ H H2 hlt p s⟩
  · have e : i = n := by omega
    subst e
    exact .inl ⟨w.stop H q, hd σ H p⟩
/-- a list comprehension in general: Pv by the turn, the heap -/
theorem lc_go (w : Iw J g n sf G) {tt : TT} {te : TE} {vs : List Nat} {σ : L2.St} {H1 : Hp} {D : Addr} {Qd : Hp → Prop} (hw : ∀ i, wipe (sf i (wipe σ vs)) vs = wipe σ vs) (Pv : Nat → Hp → Prop) (h0 : Pv 0 (upd H1 D (.lst []))) (hG : ∀ i H, i ≤ n → Pv i H → G H)
    (hs : ∀ i H H', i < n → Pv i H → Same H H' → tt (sf i (wipe σ vs)) H' fun b H3 =>
      if b = true then te (sf i (wipe σ vs)) H3 fun y H4 => ∃ acc, H4 D = some (.lst acc) ∧ acc.length < sizeLine ∧ Pv (i + 1) (upd H4 D (.lst (acc ++ [y]))) else Pv (i + 1) H3) (hd : ∀ H, Pv n H → Qd H) :
    ∃ W : Nat → Nat → Hp → Prop, (∃ m, W 0 m (upd H1 D (.lst []))) ∧ ∀ i m H, W i m H →
      (J.stop i H ∧ Qd H) ∨ (J.go i H ∧ ∃ Nx : Hp → Prop, (∀ H', Nx H' → ∃ m', m' < m ∧ W (i + 1) m' H') ∧ ∀ x H', J.yld i H x H' → g x (wipe σ vs) H' fun σ2 H2 => wipe σ2 vs = wipe σ vs ∧ tt σ2 H2 fun b H3 =>
        if b = true then te σ2 H3 fun y H4 => ∃ acc, H4 D = some (.lst acc) ∧ acc.length < sizeLine ∧ Nx (upd H4 D (.lst (acc ++ [y]))) else Nx H3) := by
  refine ⟨fun i m H => m = n - i ∧ i ≤ n ∧ Pv i H, ⟨n, by simp, Nat.zero_le _, h0⟩, ?_⟩
  rintro i m H ⟨rfl, hi, p⟩
  have q := hG i H hi p
  by_cases hlt : i < n
  · refine .inr ⟨w.go i H hlt q, Pv (i + 1), fun H' p' => ⟨n - (i + 1), by omega, rfl, hlt, p'⟩, fun x H' y => w.yld i _ H x H' hlt q y _ fun H2 s => ⟨hw i, hs i H H2 hlt p s⟩⟩
  · have e : i = n := by omega
    subst e
    exact .inl ⟨w.stop H q, hd H p⟩
/-- [e for ..], each item told by R -/
theorem lc_map {H1 : Hp} {D : Addr} (nD : H1 D = none) (w : Iw J g n sf G) {te : TE} {vs : List Nat} {σ : L2.St} {Qd : Hp → Prop} (hw : ∀ i, wipe (sf i (wipe σ vs)) vs = wipe σ vs) (hn : n ≤ 1000) (hG : ∀ H, Same H1 H → G H) (R : Nat → Hp → V → Prop) (mono : ∀ i H H' y, SmI H H' → R i H y → R i H' y)
    (hs : ∀ i H, i < n → Same H1 H → ∀ Qk : VK, (∀ y H', Same H H' → R i H' y → Qk y H') → te (sf i (wipe σ vs)) H Qk)
    (hd : ∀ H2 ys, Same H1 H2 → H2 D = some (.lst ys) → ys.length = n → (∀ i y, ys[i]? = some y → R i H2 y) → Qd H2) :
    ∃ W : Nat → Nat → Hp → Prop, (∃ m, W 0 m (upd H1 D (.lst []))) ∧ ∀ i m H, W i m H →
      (J.stop i H ∧ Qd H) ∨ (J.go i H ∧ ∃ Nx : Hp → Prop, (∀ H', Nx H' → ∃ m', m' < m ∧ W (i + 1) m' H') ∧ ∀ x H', J.yld i H x H' → g x (wipe σ vs) H' fun σ2 H2 => wipe σ2 vs = wipe σ vs ∧ tYes σ2 H2 fun b H3 =>
        if b = true then te σ2 H3 fun y H4 => ∃ acc, H4 D = some (.lst acc) ∧ acc.length < sizeLine ∧ Nx (upd H4 D (.lst (acc ++ [y]))) else Nx H3) := by
  refine lc_go w hw (fun i H => ∃ acc, H D = some (.lst acc) ∧ Same H1 H ∧ acc.length = i ∧ ∀ j y, acc[j]? = some y → R j H y) ⟨[], upd_same, same_new nD, rfl, fun j y h => by simp at h⟩ (fun i H _ ⟨_, _, s, _⟩ => hG H s) (fun i H H' hi ⟨acc, e, s, l, r⟩ s' => ?_) (fun H ⟨acc, e, s, l, r⟩ => hd H acc s e l r)
  show te (sf i (wipe σ vs)) H' _
  refine hs i H' hi (s.trans s') _ fun y H4 s4 ry => ⟨acc, s4 _ _ (s' _ _ e), by rw [l]; exact Nat.lt_of_lt_of_le (Nat.lt_of_lt_of_le hi hn) (by decide), acc ++ [y], upd_same, same_out (s.trans (s'.trans s4)) nD, by simp [l], fun j z hz => ?_⟩
  have sm : SmI H4 (upd H4 D (.lst (acc ++ [y]))) := smi_lst (s4 _ _ (s' _ _ e))
  by_cases hj : j < acc.length
  · rw [List.getElem?_append_left hj] at hz
    exact mono _ _ _ _ ((smi (s'.trans s4)).trans sm) (r j z hz)
  · rw [List.getElem?_append_right (by omega)] at hz
    have : j = i := by
      have := (List.getElem?_eq_some_iff.mp hz).1
      simp at this
      omega
    subst this
    rw [l] at hz
    simp at hz
    subst hz
    exact mono _ _ _ _ sm ry
/-- [e for .. if c], e a value f i, c a truth p i -/
theorem lc_sel {H1 : Hp} {D : Addr} (nD : H1 D = none) (w : Iw J g n sf G) {tt : TT} {te : TE} {vs : List Nat} {σ : L2.St} {Qd : Hp → Prop} (hw : ∀ i, wipe (sf i (wipe σ vs)) vs = wipe σ vs) (hn : n ≤ 1000) (hG : ∀ H, Same H1 H → G H) (p : Nat → Bool) (f : Nat → V)
    (ht : ∀ i H, i < n → Same H1 H → ∀ Qk : Bool → Hp → Prop, (∀ H', Same H H' → Qk (p i) H') → tt (sf i (wipe σ vs)) H Qk)
    (hs : ∀ i H, i < n → Same H1 H → p i = true → ∀ Qk : VK, (∀ H', Same H H' → Qk (f i) H') → te (sf i (wipe σ vs)) H Qk)
    (hd : ∀ H2, Same H1 H2 → H2 D = some (.lst (((List.range n).filter p).map f)) → Qd H2) :
    ∃ W : Nat → Nat → Hp → Prop, (∃ m, W 0 m (upd H1 D (.lst []))) ∧ ∀ i m H, W i m H →
      (J.stop i H ∧ Qd H) ∨ (J.go i H ∧ ∃ Nx : Hp → Prop, (∀ H', Nx H' → ∃ m', m' < m ∧ W (i + 1) m' H') ∧ ∀ x H', J.yld i H x H' → g x (wipe σ vs) H' fun σ2 H2 => wipe σ2 vs = wipe σ vs ∧ tt σ2 H2 fun b H3 =>
        if b = true then te σ2 H3 fun y H4 => ∃ acc, H4 D = some (.lst acc) ∧ acc.length < sizeLine ∧ Nx (upd H4 D (.lst (acc ++ [y]))) else Nx H3) := by
  refine lc_go w hw (fun i H => Same H1 H ∧ H D = some (.lst (((List.range i).filter p).map f))) ⟨same_new nD, upd_same⟩ (fun i H _ ⟨s, _⟩ => hG H s) (fun i H H' hi ⟨s, e⟩ s' => ?_) (fun H ⟨s, e⟩ => hd H s e)
  refine ht i H' hi (s.trans s') _ fun H3 s3 => ?_
  have hr : List.range (i + 1) = List.range i ++ [i] := List.range_succ
  cases hp : p i with
  | true =>
    rw [if_pos rfl]
    refine hs i H3 hi (s.trans (s'.trans s3)) hp _ fun H4 s4 => ⟨_, s4 _ _ (s3 _ _ (s' _ _ e)), ?_, same_out (s.trans (s'.trans (s3.trans s4))) nD, ?_⟩
    · rw [List.length_map]
      have := List.length_filter_le p (List.range i)
      rw [List.length_range] at this
      exact Nat.lt_of_le_of_lt (Nat.le_trans this (Nat.le_trans (Nat.le_of_lt hi) hn)) (by decide)
    · rw [upd_same, hr, List.filter_append, List.map_append]
      simp [hp]
  | false =>
    rw [if_neg (by decide)]
    refine ⟨s.trans (s'.trans s3), ?_⟩
    rw [s3 _ _ (s' _ _ e), hr, List.filter_append]
    simp [hp]
end
end K24
set_option Elab.async false
set_option linter.all false
set_option maxRecDepth 100000
set_option maxHeartbeats 4000000
namespace K24
open PySem PySem.Spec PyProof.Rows L2
abbrev N_is_integer : List Str := ["value"]
theorem sc_is_integer : FnScope N_is_integer ["value"] (defScope s_is_integer) := ⟨rfl, rfl, rfl, by decide +kernel, rfl, by decide +kernel, by decide +kernel⟩
def t_is_integer (P : Program) (w : World) (K : PySem.W.Frag) : TS := (tRet (tAndV (tCB (rIsi K) (tCons (tVar 0) (tCons (tC (.ty "int")) tNil))) (tNotV (tCB (rIsi K) (tCons (tVar 0) (tCons (tC (.ty "bool")) tNil))))))
theorem dv_is_integer {P : Program} {w : World} {K : PySem.W.Frag} {mg : Str → Option Value} {base : Heap} (G : Gs K mg) {cdv : Value} {A : Around} {outer : List Env} {s : Shared} {H : Hp} {E : XK} {f : Addr} (hr : Room 0 (A.deeper (envOfC "is_integer" (defScope s_is_integer) s.heap.objs.size f cdv))) :
    PSs (cxOf CX0 P w K mg base N_is_integer "is_integer" (defScope s_is_integer) f cdv A outer s H E).nox (defBody s_is_integer) (t_is_integer P w K ) := by
  have hu := hu_of hr
  have hu3 := hu2' hr
  have hu4 := hu64 hr
  have hu5 := hu65 hr
  exact (pss_one (ps_ret (pe_and (pe_callB call_isi (by rfl) G.m_isinstance PyProof.Rows.boot_isinstance (pa_cons (pv 0) (pa_cons (pe_bltn (v := .ty "int") (by rfl) G.m_int PyProof.Rows.boot_int (by rfl)) pa_nil))) (pe_one (pe_not (pe_callB call_isi (by rfl) G.m_isinstance PyProof.Rows.boot_isinstance (pa_cons (pv 0) (pa_cons (pe_bltn (v := .ty "bool") (by rfl) G.m_bool PyProof.Rows.boot_bool (by rfl)) pa_nil))))))))
abbrev N_is_number : List Str := ["value"]
theorem sc_is_number : FnScope N_is_number ["value"] (defScope s_is_number) := ⟨rfl, rfl, rfl, by decide +kernel, rfl, by decide +kernel, by decide +kernel⟩
def t_is_number (P : Program) (w : World) (K : PySem.W.Frag) (sp_is_integer : Sp) : TS := (tRet (tAndV (tCall sp_is_integer [] E0 (tCons (tVar 0) tNil)) (tOp (rI0 fun i j => .bl (decide (j ≤ i))) (tVar 0) (tC (.int 0)))))
theorem dv_is_number {P : Program} {w : World} {K : PySem.W.Frag} {mg : Str → Option Value} {base : Heap} (G : Gs K mg) {sp_is_integer : Sp} (C_is_integer : C8.Cal P w K mg base 1 "is_integer" sp_is_integer []) {cdv : Value} {A : Around} {outer : List Env} {s : Shared} {H : Hp} {E : XK} {f : Addr} (hr : Room 1 (A.deeper (envOfC "is_number" (defScope s_is_number) s.heap.objs.size f cdv))) :
    PSs (cxOf CX0 P w K mg base N_is_number "is_number" (defScope s_is_number) f cdv A outer s H E).nox (defBody s_is_number) (t_is_number P w K sp_is_integer) := by
  have hu := hu_of hr
  have hu3 := hu2' hr
  have hu4 := hu64 hr
  have hu5 := hu65 hr
  exact (pss_one (ps_ret (pe_and (C8.pe_c C_is_integer hr (by decide) (by rfl) (pa_cons (pv 0) pa_nil)) (pe_one (pe_cmpR op_ge (pv 0) pe_int (nomark _))))))
abbrev N_is_sequence : List Str := ["value"]
theorem sc_is_sequence : FnScope N_is_sequence ["value"] (defScope s_is_sequence) := ⟨rfl, rfl, rfl, by decide +kernel, rfl, by decide +kernel, by decide +kernel⟩
def t_is_sequence (P : Program) (w : World) (K : PySem.W.Frag) : TS := (tRet (tCB (rIsiT K) (tCons (tVar 0) (tCons (tTup (tCons (tC (.ty "list")) (tCons (tC (.ty "tuple")) tNil))) tNil))))
theorem dv_is_sequence {P : Program} {w : World} {K : PySem.W.Frag} {mg : Str → Option Value} {base : Heap} (G : Gs K mg) {cdv : Value} {A : Around} {outer : List Env} {s : Shared} {H : Hp} {E : XK} {f : Addr} (hr : Room 0 (A.deeper (envOfC "is_sequence" (defScope s_is_sequence) s.heap.objs.size f cdv))) :
    PSs (cxOf CX0 P w K mg base N_is_sequence "is_sequence" (defScope s_is_sequence) f cdv A outer s H E).nox (defBody s_is_sequence) (t_is_sequence P w K ) := by
  have hu := hu_of hr
  have hu3 := hu2' hr
  have hu4 := hu64 hr
  have hu5 := hu65 hr
  exact (pss_one (ps_ret (pe_callB call_isiT (by rfl) G.m_isinstance PyProof.Rows.boot_isinstance (pa_cons (pv 0) (pa_cons (pe_tup (pa_cons (pe_bltn (v := .ty "list") (by rfl) G.m_list PyProof.Rows.boot_list (by rfl)) (pa_cons (pe_bltn (v := .ty "tuple") (by rfl) G.m_tuple PyProof.Rows.boot_tuple (by rfl)) pa_nil))) pa_nil)))))
abbrev N_wrong_size : List Str := ["sizes", "at", "size"]
theorem sc_wrong_size : FnScope N_wrong_size ["sizes"] (defScope s_wrong_size) := ⟨rfl, rfl, rfl, by decide +kernel, rfl, by decide +kernel, by decide +kernel⟩
def t_wrong_size (P : Program) (w : World) (K : PySem.W.Frag) (sp_is_sequence : Sp) (sp_is_number : Sp) : TS := (tSeq (tIfS (tOr (tNot (tB (tCall sp_is_sequence [] E0 (tCons (tVar 0) tNil)))) (tNot (tTest (tChain (rI0 fun i j => .bl (decide (i ≤ j))) (rI0 fun i j => .bl (decide (i ≤ j))) (tC (.int 1)) (tCB (rLn K) (tCons (tVar 0) tNil)) (tC (.int 6)))))) (tRet (tUn (rU fun i => .int (-i)) (tC (.int 1)))) tNext)
  (tSeq (tFor (iEnK K (tCons (tVar 0) tNil)) (gTup K 2 (gCons (gName 1) (gCons (gName 2) gNil))) (tIfS (tOr (tNot (tB (tCall sp_is_number [] E0 (tCons (tVar 2) tNil)))) (tNot (tTest (tChain (rI0 fun i j => .bl (decide (i ≤ j))) (rI0 fun i j => .bl (decide (i ≤ j))) (tC (.int 1)) (tVar 2) (tC (.int 36)))))) (tRet (tVar 1)) tNext))
  (tRet (tC (.non)))))
theorem dv_wrong_size {P : Program} {w : World} {K : PySem.W.Frag} {mg : Str → Option Value} {base : Heap} (G : Gs K mg) {sp_is_sequence : Sp} {sp_is_number : Sp} (C_is_sequence : C8.Cal P w K mg base 1 "is_sequence" sp_is_sequence []) (C_is_number : C8.Cal P w K mg base 2 "is_number" sp_is_number []) {cdv : Value} {A : Around} {outer : List Env} {s : Shared} {H : Hp} {E : XK} {f : Addr} (hr : Room 2 (A.deeper (envOfC "wrong_size" (defScope s_wrong_size) s.heap.objs.size f cdv))) :
    PSs (cxOf CX0 P w K mg base N_wrong_size "wrong_size" (defScope s_wrong_size) f cdv A outer s H E).nox (defBody s_wrong_size) (t_wrong_size P w K sp_is_sequence sp_is_number) := by
  have hu := hu_of hr
  have hu3 := hu2' hr
  have hu4 := hu64 hr
  have hu5 := hu65 hr
  exact (pss_cons (ps_if (PW.pt (pw_or (pt_not (pt_val (C8.pe_c C_is_sequence hr (by decide) (by rfl) (pa_cons (pv 0) pa_nil)))) (pw_or1 (pt_not (pt_chain op_le op_le pe_int (pe_callB (r := rLn K) call_len_seq (by rfl) G.m_len PySem.boot_len (pa_cons (pv 0) pa_nil)) (pe_glob (v := .int 6) (by rfl) G.c_MOST_CELLS.choose_spec (by exact ⟨_, rfl⟩))))))) (pss_one (ps_ret (pe_un un_neg pe_int))) pss_nil)
      (pss_cons (ps_for PassesOwn.never (by rfl) (pi_enumK (by rfl) G.m_enumerate (pa_cons (pv 0) pa_nil)) (pg_tup (by rfl) (pgs_cons (pg_name (i := 1) sc_wrong_size.nd (by rfl) (by exact .inl rfl) (hf := by exact .inl rfl)) (pgs_cons (pg_name (i := 2) sc_wrong_size.nd (by rfl) (by exact .inl rfl) (hf := by exact .inl rfl)) pgs_nil))) (pss_one (ps_if (PW.pt (pw_or (pt_not (pt_val (C8.pe_c C_is_number hr (by decide) (by rfl) (pa_cons (pv 2) pa_nil)))) (pw_or1 (pt_not (pt_chain op_le op_le pe_int (pv 2) (pe_glob (v := .int 36) (by rfl) G.c_MOST_CONTENTS.choose_spec (by exact ⟨_, rfl⟩))))))) (pss_one (ps_ret (pv 1))) pss_nil)))
      (pss_one (ps_ret pe_non))))
abbrev N_fits_sizes : List Str := ["sizes", "value", "content", "size"]
theorem sc_fits_sizes : FnScope N_fits_sizes ["sizes", "value"] (defScope s_fits_sizes) := ⟨rfl, rfl, rfl, by decide +kernel, rfl, by decide +kernel, by decide +kernel⟩
def t_fits_sizes (P : Program) (w : World) (K : PySem.W.Frag) (sp_is_sequence : Sp) (sp_is_number : Sp) : TS := (tSeq (tIfS (tOr (tNot (tB (tCall sp_is_sequence [] E0 (tCons (tVar 1) tNil)))) (tTest (tOp rNe (tCB (rLn K) (tCons (tVar 1) tNil)) (tCB (rLn K) (tCons (tVar 0) tNil))))) (tRet (tC (.bl false))) tNext)
  (tRet (tCB (rAll K) (tCons (tLc (iZiK K (tCons (tVar 1) (tCons (tVar 0) tNil))) (gTup K 2 (gCons (gName 2) (gCons (gName 3) gNil))) tYes (tAndV (tCall sp_is_number [] E0 (tCons (tVar 2) tNil)) (tOp (rI0 fun i j => .bl (decide (i < j))) (tVar 2) (tVar 3))) [2, 3]) tNil))))
theorem dv_fits_sizes {P : Program} {w : World} {K : PySem.W.Frag} {mg : Str → Option Value} {base : Heap} (G : Gs K mg) {sp_is_sequence : Sp} {sp_is_number : Sp} (C_is_sequence : C8.Cal P w K mg base 1 "is_sequence" sp_is_sequence []) (C_is_number : C8.Cal P w K mg base 2 "is_number" sp_is_number []) {cdv : Value} {A : Around} {outer : List Env} {s : Shared} {H : Hp} {E : XK} {f : Addr} (hr : Room 2 (A.deeper (envOfC "fits_sizes" (defScope s_fits_sizes) s.heap.objs.size f cdv))) :
    PSs (cxOf CX0 P w K mg base N_fits_sizes "fits_sizes" (defScope s_fits_sizes) f cdv A outer s H E).nox (defBody s_fits_sizes) (t_fits_sizes P w K sp_is_sequence sp_is_number) := by
  have hu := hu_of hr
  have hu3 := hu2' hr
  have hu4 := hu64 hr
  have hu5 := hu65 hr
  exact (pss_cons (ps_if (PW.pt (pw_or (pt_not (pt_val (C8.pe_c C_is_sequence hr (by decide) (by rfl) (pa_cons (pv 1) pa_nil)))) (pw_or1 (pt_cmpR op_ne (pe_callB (r := rLn K) call_len_seq (by rfl) G.m_len PySem.boot_len (pa_cons (pv 1) pa_nil)) (pe_callB (r := rLn K) call_len_seq (by rfl) G.m_len PySem.boot_len (pa_cons (pv 0) pa_nil)) (nomark _))))) (pss_one (ps_ret pe_bl)) pss_nil)
      (pss_one (ps_ret (pe_callB (cr_all (by rfl)) (by rfl) G.m_all PyProof.Rows.boot_all (pa_cons (pe_lc (own := [("content", 2), ("size", 3)]) (g := (gTup K 2 (gCons (gName 2) (gCons (gName 3) gNil)))) (tt := tYes) (te := (tAndV (tCall sp_is_number [] E0 (tCons (tVar 2) tNil)) (tOp (rI0 fun i j => .bl (decide (i < j))) (tVar 2) (tVar 3)))) (by rfl) sc_fits_sizes.nd (pi_zipK (by rfl) G.m_zip (pa_cons (pv 1) (pa_cons (pv 0) pa_nil))) (blkOk_by (N := N_fits_sizes) (sc := defScope s_fits_sizes) (by decide +kernel)) (fun _ _ _ _ _ => (pg_tup (by rfl) (pgs_cons (pg_name (i := 2) sc_fits_sizes.nd (by rfl) (by exact .inl rfl) (hf := by exact .inr rfl)) (pgs_cons (pg_name (i := 3) sc_fits_sizes.nd (by rfl) (by exact .inl rfl) (hf := by exact .inr rfl)) pgs_nil)))) (fun _ _ _ _ _ => pts_nil) (fun _ _ _ _ _ => (pe_and (C8.pe_c C_is_number hr (by decide) (by rfl) (pa_cons (pv 2) pa_nil)) (pe_one (pe_cmpR op_lt (pv 2) (pv 3) (nomark _)))))) pa_nil)))))
abbrev N_wrong_standing : List Str := ["sizes", "standings", "met", "at", "standing"]
theorem sc_wrong_standing : FnScope N_wrong_standing ["sizes", "standings"] (defScope s_wrong_standing) := ⟨rfl, rfl, rfl, by decide +kernel, rfl, by decide +kernel, by decide +kernel⟩
def t_wrong_standing (P : Program) (w : World) (K : PySem.W.Frag) (sp_is_sequence : Sp) (sp_fits_sizes : Sp) : TS := (tSeq (tIfS (tOr (tNot (tB (tCall sp_is_sequence [] E0 (tCons (tVar 1) tNil)))) (tTest (tOp rEq (tCB (rLn K) (tCons (tVar 1) tNil)) (tC (.int 0))))) (tRet (tUn (rU fun i => .int (-i)) (tC (.int 1)))) tNext)
  (tSeq (tAsg tDNewT (gName 2))
  (tSeq (tFor (iEnK K (tCons (tVar 1) tNil)) (gTup K 2 (gCons (gName 3) (gCons (gName 4) gNil))) (tSeq (tIfS (tOr (tNot (tB (tCall sp_fits_sizes [] E0 (tCons (tVar 0) (tCons (tVar 4) tNil))))) (tB (tDIn (tThen (tVar 4) (kTup K)) (tVar 2)))) (tRet (tVar 3)) tNext)
  (sDPut (tVar 2) (tThen (tVar 4) (kTup K)) (tVar 3))))
  (tRet (tC (.non))))))
theorem dv_wrong_standing {P : Program} {w : World} {K : PySem.W.Frag} {mg : Str → Option Value} {base : Heap} (G : Gs K mg) {sp_is_sequence : Sp} {sp_fits_sizes : Sp} (C_is_sequence : C8.Cal P w K mg base 1 "is_sequence" sp_is_sequence []) (C_fits_sizes : C8.Cal P w K mg base 3 "fits_sizes" sp_fits_sizes []) {cdv : Value} {A : Around} {outer : List Env} {s : Shared} {H : Hp} {E : XK} {f : Addr} (hr : Room 3 (A.deeper (envOfC "wrong_standing" (defScope s_wrong_standing) s.heap.objs.size f cdv))) :
    PSs (cxOf CX0 P w K mg base N_wrong_standing "wrong_standing" (defScope s_wrong_standing) f cdv A outer s H E).nox (defBody s_wrong_standing) (t_wrong_standing P w K sp_is_sequence sp_fits_sizes) := by
  have hu := hu_of hr
  have hu3 := hu2' hr
  have hu4 := hu64 hr
  have hu5 := hu65 hr
  exact (pss_cons (ps_if (PW.pt (pw_or (pt_not (pt_val (C8.pe_c C_is_sequence hr (by decide) (by rfl) (pa_cons (pv 1) pa_nil)))) (pw_or1 (pt_cmpR op_eq (pe_callB (r := rLn K) call_len_seq (by rfl) G.m_len PySem.boot_len (pa_cons (pv 1) pa_nil)) pe_int (nomark _))))) (pss_one (ps_ret (pe_un un_neg pe_int))) pss_nil)
      (pss_cons (ps_set (i := 2) sc_wrong_standing.nd (by rfl) (by exact .inl rfl) pe_dnewT)
      (pss_cons (ps_for PassesOwn.never (by rfl) (pi_enumK (by rfl) G.m_enumerate (pa_cons (pv 1) pa_nil)) (pg_tup (by rfl) (pgs_cons (pg_name (i := 3) sc_wrong_standing.nd (by rfl) (by exact .inl rfl) (hf := by exact .inl rfl)) (pgs_cons (pg_name (i := 4) sc_wrong_standing.nd (by rfl) (by exact .inl rfl) (hf := by exact .inl rfl)) pgs_nil))) (pss_cons (ps_if (PW.pt (pw_or (pt_not (pt_val (C8.pe_c C_fits_sizes hr (by decide) (by rfl) (pa_cons (pv 0) (pa_cons (pv 4) pa_nil))))) (pw_or1 (pt_cmp (pc_din hu (pe_tupleOf (by rfl) G.m_tuple (pv 4)) (pv 2)))))) (pss_one (ps_ret (pv 3))) pss_nil)
      (pss_one (ps_dput hu (pv 2) (pe_tupleOf (by rfl) G.m_tuple (pv 4)) (pv 3) (by rfl)))))
      (pss_one (ps_ret pe_non)))))
abbrev N_wrong_change : List Str := ["count", "changes", "met", "at", "pair", "one"]
theorem sc_wrong_change : FnScope N_wrong_change ["count", "changes"] (defScope s_wrong_change) := ⟨rfl, rfl, rfl, by decide +kernel, rfl, by decide +kernel, by decide +kernel⟩
def t_wrong_change (P : Program) (w : World) (K : PySem.W.Frag) (sp_is_sequence : Sp) (sp_is_number : Sp) : TS := (tSeq (tIfS (tNot (tB (tCall sp_is_sequence [] E0 (tCons (tVar 1) tNil)))) (tRet (tUn (rU fun i => .int (-i)) (tC (.int 1)))) tNext)
  (tSeq (tAsg tDNewT (gName 2))
  (tSeq (tFor (iEnK K (tCons (tVar 1) tNil)) (gTup K 2 (gCons (gName 3) (gCons (gName 4) gNil))) (tSeq (tIfS (tOr (tNot (tB (tCall sp_is_sequence [] E0 (tCons (tVar 4) tNil)))) (tOr (tTest (tOp rNe (tCB (rLn K) (tCons (tVar 4) tNil)) (tC (.int 2)))) (tNot (tB (tCB (rAll K) (tCons (tLc (iSeq K (tVar 4)) (gName 5) tYes (tAndV (tCall sp_is_number [] E0 (tCons (tVar 5) tNil)) (tOp (rI0 fun i j => .bl (decide (i < j))) (tVar 5) (tVar 0))) [5]) tNil)))))) (tRet (tVar 3)) tNext)
  (tSeq (tIfS (tOr (tTest (tOp rEq (tOp (rIxT K) (tVar 4) (tC (.int 0))) (tOp (rIxT K) (tVar 4) (tC (.int 1))))) (tB (tDIn (tThen (tVar 4) (kTup K)) (tVar 2)))) (tRet (tVar 3)) tNext)
  (sDPut (tVar 2) (tThen (tVar 4) (kTup K)) (tVar 3)))))
  (tRet (tC (.non))))))
theorem dv_wrong_change {P : Program} {w : World} {K : PySem.W.Frag} {mg : Str → Option Value} {base : Heap} (G : Gs K mg) {sp_is_sequence : Sp} {sp_is_number : Sp} (C_is_sequence : C8.Cal P w K mg base 1 "is_sequence" sp_is_sequence []) (C_is_number : C8.Cal P w K mg base 2 "is_number" sp_is_number []) {cdv : Value} {A : Around} {outer : List Env} {s : Shared} {H : Hp} {E : XK} {f : Addr} (hr : Room 2 (A.deeper (envOfC "wrong_change" (defScope s_wrong_change) s.heap.objs.size f cdv))) :
    PSs (cxOf CX0 P w K mg base N_wrong_change "wrong_change" (defScope s_wrong_change) f cdv A outer s H E).nox (defBody s_wrong_change) (t_wrong_change P w K sp_is_sequence sp_is_number) := by
  have hu := hu_of hr
  have hu3 := hu2' hr
  have hu4 := hu64 hr
  have hu5 := hu65 hr
  exact (pss_cons (ps_if (pt_not (pt_val (C8.pe_c C_is_sequence hr (by decide) (by rfl) (pa_cons (pv 1) pa_nil)))) (pss_one (ps_ret (pe_un un_neg pe_int))) pss_nil)
      (pss_cons (ps_set (i := 2) sc_wrong_change.nd (by rfl) (by exact .inl rfl) pe_dnewT)
      (pss_cons (ps_for PassesOwn.never (by rfl) (pi_enumK (by rfl) G.m_enumerate (pa_cons (pv 1) pa_nil)) (pg_tup (by rfl) (pgs_cons (pg_name (i := 3) sc_wrong_change.nd (by rfl) (by exact .inl rfl) (hf := by exact .inl rfl)) (pgs_cons (pg_name (i := 4) sc_wrong_change.nd (by rfl) (by exact .inl rfl) (hf := by exact .inl rfl)) pgs_nil))) (pss_cons (ps_if (PW.pt (pw_or (pt_not (pt_val (C8.pe_c C_is_sequence hr (by decide) (by rfl) (pa_cons (pv 4) pa_nil)))) (pw_or (pt_cmpR op_ne (pe_callB (r := rLn K) call_len_seq (by rfl) G.m_len PySem.boot_len (pa_cons (pv 4) pa_nil)) pe_int (nomark _)) (pw_or1 (pt_not (pt_val (pe_callB (cr_all (by rfl)) (by rfl) G.m_all PyProof.Rows.boot_all (pa_cons (pe_lc (own := [("one", 5)]) (g := (gName 5)) (tt := tYes) (te := (tAndV (tCall sp_is_number [] E0 (tCons (tVar 5) tNil)) (tOp (rI0 fun i j => .bl (decide (i < j))) (tVar 5) (tVar 0)))) (by rfl) sc_wrong_change.nd (pi_seq (pv 4)) (blkOk_by (N := N_wrong_change) (sc := defScope s_wrong_change) (by decide +kernel)) (fun _ _ _ _ _ => (pg_name (i := 5) sc_wrong_change.nd (by rfl) (by exact .inl rfl) (hf := by exact .inr rfl))) (fun _ _ _ _ _ => pts_nil) (fun _ _ _ _ _ => (pe_and (C8.pe_c C_is_number hr (by decide) (by rfl) (pa_cons (pv 5) pa_nil)) (pe_one (pe_cmpR op_lt (pv 5) (pv 0) (nomark _)))))) pa_nil)))))))) (pss_one (ps_ret (pv 3))) pss_nil)
      (pss_cons (ps_if (PW.pt (pw_or (pt_cmpR op_eq (pe_ix ix_tup (pv 4) pe_int (by exact fun _ _ => rfl)) (pe_ix ix_tup (pv 4) pe_int (by exact fun _ _ => rfl)) (nomark _)) (pw_or1 (pt_cmp (pc_din hu (pe_tupleOf (by rfl) G.m_tuple (pv 4)) (pv 2)))))) (pss_one (ps_ret (pv 3))) pss_nil)
      (pss_one (ps_dput hu (pv 2) (pe_tupleOf (by rfl) G.m_tuple (pv 4)) (pv 3) (by rfl))))))
      (pss_one (ps_ret pe_non)))))
abbrev N_Houselen : List Str := ["self"]
theorem sc_Houselen : FnScope N_Houselen ["self"] (defScope s_Houselen) := ⟨rfl, rfl, rfl, by decide +kernel, rfl, by decide +kernel, by decide +kernel⟩
def t_Houselen (P : Program) (w : World) (K : PySem.W.Frag) : TS := (tRet (tCB (rLn K) (tCons (tFld K (tVar 0) "standings") tNil)))
theorem dv_Houselen {P : Program} {w : World} {K : PySem.W.Frag} {mg : Str → Option Value} {base : Heap} (G : Gs K mg) {cdv : Value} {A : Around} {outer : List Env} {s : Shared} {H : Hp} {E : XK} {f : Addr} (hr : Room 0 (A.deeper (envOfC "House.__len__" (defScope s_Houselen) s.heap.objs.size f cdv))) :
    PSs (cxOf CX0 P w K mg base N_Houselen "House.__len__" (defScope s_Houselen) f cdv A outer s H E).nox (defBody s_Houselen) (t_Houselen P w K ) := by
  have hu := hu_of hr
  have hu3 := hu2' hr
  have hu4 := hu64 hr
  have hu5 := hu65 hr
  exact (pss_one (ps_ret (pe_callB (r := rLn K) call_len_seq (by rfl) G.m_len PySem.boot_len (pa_cons (pe_fld (pv 0) (by rfl)) pa_nil))))
abbrev N_Houseinit : List Str := ["self", "sizes", "standings", "changes", "at", "ahead", "behind", "start", "goal", "standing", "pair", "row"]
theorem sc_Houseinit : FnScope N_Houseinit ["self", "sizes", "standings", "changes"] (defScope s_Houseinit) := ⟨rfl, rfl, rfl, by decide +kernel, rfl, by decide +kernel, by decide +kernel⟩
def t_Houseinit (P : Program) (w : World) (K : PySem.W.Frag) (sp_wrong_size : Sp) (sp_wrong_standing : Sp) (sp_wrong_change : Sp) (sp_is_sequence : Sp) : TS := (tSeq (tAsg (tCall sp_wrong_size [] E0 (tCons (tVar 1) tNil)) (gName 4))
  (tSeq (tIfS (tTest (tOp rNotNo (tVar 4) (tC (.non)))) tNever tNext)
  (tSeq (tIfS (tTest (tOp rIsNo (tVar 2) (tC (.non)))) tNever (tIfS (tAnd (tB (tCall sp_is_sequence [] E0 (tCons (tVar 2) tNil))) (tTest (tOp (rI0 fun i j => .bl (decide (j < i))) (tCB (rLn K) (tCons (tVar 2) tNil)) (tC (.int 300))))) tNever tNext))
  (tSeq (tAsg (tCall sp_wrong_standing [] E0 (tCons (tVar 1) (tCons (tVar 2) tNil))) (gName 4))
  (tSeq (tIfS (tTest (tOp rNotNo (tVar 4) (tC (.non)))) tNever tNext)
  (tSeq (tAsg (tCall sp_wrong_change [] E0 (tCons (tCB (rLn K) (tCons (tVar 2) tNil)) (tCons (tVar 3) tNil))) (gName 4))
  (tSeq (tIfS (tTest (tOp rNotNo (tVar 4) (tC (.non)))) tNever tNext)
  (tSeq (sFld K (tVar 0) (tThen (tVar 1) (kTup K)) "sizes")
  (tSeq (sFld K (tVar 0) (tThen (tCB (rSortTA K) (tCons (tLc (iSeq K (tVar 2)) (gName 9) tYes (tThen (tVar 9) (kTup K)) [9]) tNil)) (kTup K)) "standings")
  (tSeq (sFld K (tVar 0) (tThen (tCB (rSortTA K) (tCons (tLc (iSeq K (tVar 3)) (gName 10) tYes (tThen (tVar 10) (kTup K)) [10]) tNil)) (kTup K)) "changes")
  (tSeq (tPar 5 6 (tCons (tLc (iSeq K (tVar 2)) (gName 9) tYes (tLst tNil) [9]) (tCons (tLc (iSeq K (tVar 2)) (gName 9) tYes (tLst tNil) [9]) tNil)))
  (tSeq (tFor (iSeq K (tFld K (tVar 0) "changes")) (gTup K 2 (gCons (gName 7) (gCons (gName 8) gNil))) (tSeq (tDrop (tBM K "list" rAppend (tOp (rIxL K) (tVar 5) (tVar 7)) (tCons (tVar 8) tNil)))
  (tDrop (tBM K "list" rAppend (tOp (rIxL K) (tVar 6) (tVar 8)) (tCons (tVar 7) tNil)))))
  (tSeq (sFld K (tVar 0) (tThen (tLc (iSeq K (tVar 5)) (gName 11) tYes (tThen (tVar 11) (kTup K)) [11]) (kTup K)) "ahead")
  (sFld K (tVar 0) (tThen (tLc (iSeq K (tVar 6)) (gName 11) tYes (tThen (tVar 11) (kTup K)) [11]) (kTup K)) "behind"))))))))))))))
theorem dv_Houseinit {P : Program} {w : World} {K : PySem.W.Frag} {mg : Str → Option Value} {base : Heap} (G : Gs K mg) {sp_wrong_size : Sp} {sp_wrong_standing : Sp} {sp_wrong_change : Sp} {sp_is_sequence : Sp} (C_wrong_size : C8.Cal P w K mg base 3 "wrong_size" sp_wrong_size []) (C_wrong_standing : C8.Cal P w K mg base 4 "wrong_standing" sp_wrong_standing []) (C_wrong_change : C8.Cal P w K mg base 3 "wrong_change" sp_wrong_change []) (C_is_sequence : C8.Cal P w K mg base 1 "is_sequence" sp_is_sequence []) {cdv : Value} {A : Around} {outer : List Env} {s : Shared} {H : Hp} {E : XK} {f : Addr} (hr : Room 4 (A.deeper (envOfC "House.__init__" (defScope s_Houseinit) s.heap.objs.size f cdv))) :
    PSs (cxOf CX0 P w K mg base N_Houseinit "House.__init__" (defScope s_Houseinit) f cdv A outer s H E).nox (defBody s_Houseinit) (t_Houseinit P w K sp_wrong_size sp_wrong_standing sp_wrong_change sp_is_sequence) := by
  have hu := hu_of hr
  have hu3 := hu2' hr
  have hu4 := hu64 hr
  have hu5 := hu65 hr
  exact (pss_cons (ps_set (i := 4) sc_Houseinit.nd (by rfl) (by exact .inl rfl) (C8.pe_c C_wrong_size hr (by decide) (by rfl) (pa_cons (pv 1) pa_nil)))
      (pss_cons (ps_if (pt_cmpR op_notN (pv 4) pe_non (nomark _)) pss_never pss_nil)
      (pss_cons (ps_if (pt_cmpR op_isN (pv 2) pe_non (nomark _)) pss_never (pss_one (ps_if (PW.pt (pw_and (pt_val (C8.pe_c C_is_sequence hr (by decide) (by rfl) (pa_cons (pv 2) pa_nil))) (pw_and1 (pt_cmpR op_gt (pe_callB (r := rLn K) call_len_seq (by rfl) G.m_len PySem.boot_len (pa_cons (pv 2) pa_nil)) (pe_glob (v := .int 300) (by rfl) G.c_MOST_STANDINGS.choose_spec (by exact ⟨_, rfl⟩)) (nomark _))))) pss_never pss_nil)))
      (pss_cons (ps_set (i := 4) sc_Houseinit.nd (by rfl) (by exact .inl rfl) (C8.pe_c C_wrong_standing hr (by decide) (by rfl) (pa_cons (pv 1) (pa_cons (pv 2) pa_nil))))
      (pss_cons (ps_if (pt_cmpR op_notN (pv 4) pe_non (nomark _)) pss_never pss_nil)
      (pss_cons (ps_set (i := 4) sc_Houseinit.nd (by rfl) (by exact .inl rfl) (C8.pe_c C_wrong_change hr (by decide) (by rfl) (pa_cons (pe_callB (r := rLn K) call_len_seq (by rfl) G.m_len PySem.boot_len (pa_cons (pv 2) pa_nil)) (pa_cons (pv 3) pa_nil))))
      (pss_cons (ps_if (pt_cmpR op_notN (pv 4) pe_non (nomark _)) pss_never pss_nil)
      (pss_cons (ps_fld (pv 0) (pe_tupleOf (by rfl) G.m_tuple (pv 1)) (by rfl))
      (pss_cons (ps_fld (pv 0) (pe_tupleOf (by rfl) G.m_tuple (pe_callB cr_sortTA (by rfl) G.m_sorted PyProof.Rows.boot_sorted (pa_cons (pe_lc (own := [("standing", 9)]) (g := (gName 9)) (tt := tYes) (te := (tThen (tVar 9) (kTup K))) (by rfl) sc_Houseinit.nd (pi_seq (pv 2)) (blkOk_by (N := N_Houseinit) (sc := defScope s_Houseinit) (by decide +kernel)) (fun _ _ _ _ _ => (pg_name (i := 9) sc_Houseinit.nd (by rfl) (by exact .inl rfl) (hf := by exact .inr rfl))) (fun _ _ _ _ _ => pts_nil) (fun _ _ _ _ _ => (pe_tupleOf (by rfl) G.m_tuple (pv 9)))) pa_nil))) (by rfl))
      (pss_cons (ps_fld (pv 0) (pe_tupleOf (by rfl) G.m_tuple (pe_callB cr_sortTA (by rfl) G.m_sorted PyProof.Rows.boot_sorted (pa_cons (pe_lc (own := [("pair", 10)]) (g := (gName 10)) (tt := tYes) (te := (tThen (tVar 10) (kTup K))) (by rfl) sc_Houseinit.nd (pi_seq (pv 3)) (blkOk_by (N := N_Houseinit) (sc := defScope s_Houseinit) (by decide +kernel)) (fun _ _ _ _ _ => (pg_name (i := 10) sc_Houseinit.nd (by rfl) (by exact .inl rfl) (hf := by exact .inr rfl))) (fun _ _ _ _ _ => pts_nil) (fun _ _ _ _ _ => (pe_tupleOf (by rfl) G.m_tuple (pv 10)))) pa_nil))) (by rfl))
      (pss_cons (ps_par (i := 5) (j := 6) (by rfl) sc_Houseinit.nd (by rfl) (by rfl) (by decide) (by rfl) (by rfl) (pa_cons (pe_lc (own := [("standing", 9)]) (g := (gName 9)) (tt := tYes) (te := (tLst tNil)) (by rfl) sc_Houseinit.nd (pi_seq (pv 2)) (blkOk_by (N := N_Houseinit) (sc := defScope s_Houseinit) (by decide +kernel)) (fun _ _ _ _ _ => (pg_name (i := 9) sc_Houseinit.nd (by rfl) (by exact .inl rfl) (hf := by exact .inr rfl))) (fun _ _ _ _ _ => pts_nil) (fun _ _ _ _ _ => (pe_lst pa_nil))) (pa_cons (pe_lc (own := [("standing", 9)]) (g := (gName 9)) (tt := tYes) (te := (tLst tNil)) (by rfl) sc_Houseinit.nd (pi_seq (pv 2)) (blkOk_by (N := N_Houseinit) (sc := defScope s_Houseinit) (by decide +kernel)) (fun _ _ _ _ _ => (pg_name (i := 9) sc_Houseinit.nd (by rfl) (by exact .inl rfl) (hf := by exact .inr rfl))) (fun _ _ _ _ _ => pts_nil) (fun _ _ _ _ _ => (pe_lst pa_nil))) pa_nil)) (by kernel_rfl))
      (pss_cons (ps_for PassesOwn.never (by rfl) (pi_seq (pe_fld (pv 0) (by rfl))) (pg_tup (by rfl) (pgs_cons (pg_name (i := 7) sc_Houseinit.nd (by rfl) (by exact .inl rfl) (hf := by exact .inl rfl)) (pgs_cons (pg_name (i := 8) sc_Houseinit.nd (by rfl) (by exact .inl rfl) (hf := by exact .inl rfl)) pgs_nil))) (pss_cons (ps_expr (pe_bm PySem.F.plainAttrs_list PySem.F.slot_list_append PySem.F.type_list_append mt_append (pe_ix ix_list (pv 5) (pv 7) (by exact fun _ _ => rfl)) (pa_cons (pv 8) pa_nil)))
      (pss_one (ps_expr (pe_bm PySem.F.plainAttrs_list PySem.F.slot_list_append PySem.F.type_list_append mt_append (pe_ix ix_list (pv 6) (pv 8) (by exact fun _ _ => rfl)) (pa_cons (pv 7) pa_nil))))))
      (pss_cons (ps_fld (pv 0) (pe_tupleOf (by rfl) G.m_tuple (pe_lc (own := [("row", 11)]) (g := (gName 11)) (tt := tYes) (te := (tThen (tVar 11) (kTup K))) (by rfl) sc_Houseinit.nd (pi_seq (pv 5)) (blkOk_by (N := N_Houseinit) (sc := defScope s_Houseinit) (by decide +kernel)) (fun _ _ _ _ _ => (pg_name (i := 11) sc_Houseinit.nd (by rfl) (by exact .inl rfl) (hf := by exact .inr rfl))) (fun _ _ _ _ _ => pts_nil) (fun _ _ _ _ _ => (pe_tupleOf (by rfl) G.m_tuple (pv 11))))) (by rfl))
      (pss_one (ps_fld (pv 0) (pe_tupleOf (by rfl) G.m_tuple (pe_lc (own := [("row", 11)]) (g := (gName 11)) (tt := tYes) (te := (tThen (tVar 11) (kTup K))) (by rfl) sc_Houseinit.nd (pi_seq (pv 6)) (blkOk_by (N := N_Houseinit) (sc := defScope s_Houseinit) (by decide +kernel)) (fun _ _ _ _ _ => (pg_name (i := 11) sc_Houseinit.nd (by rfl) (by exact .inl rfl) (hf := by exact .inr rfl))) (fun _ _ _ _ _ => pts_nil) (fun _ _ _ _ _ => (pe_tupleOf (by rfl) G.m_tuple (pv 11))))) (by rfl))))))))))))))))
abbrev N_Houseeq : List Str := ["self", "other"]
theorem sc_Houseeq : FnScope N_Houseeq ["self", "other"] (defScope s_Houseeq) := ⟨rfl, rfl, rfl, by decide +kernel, rfl, by decide +kernel, by decide +kernel⟩
def t_Houseeq (P : Program) (w : World) (K : PySem.W.Frag) : TS := (tSeq (tIfS (tNot (tB (tCB (rIsC (cH K)) (tCons (tVar 1) (tCons (tC (.ref (cH K))) tNil))))) (tRet (tC (.bl false))) tNext)
  (tRet (tOp (rEqD K) (tTup (tCons (tFld K (tVar 0) "sizes") (tCons (tFld K (tVar 0) "standings") (tCons (tFld K (tVar 0) "changes") tNil)))) (tTup (tCons (tFld K (tVar 1) "sizes") (tCons (tFld K (tVar 1) "standings") (tCons (tFld K (tVar 1) "changes") tNil)))))))
theorem dv_Houseeq {P : Program} {w : World} {K : PySem.W.Frag} {mg : Str → Option Value} {base : Heap} (G : Gs K mg) {cdv : Value} {A : Around} {outer : List Env} {s : Shared} {H : Hp} {E : XK} {f : Addr} (hr : Room 0 (A.deeper (envOfC "House.__eq__" (defScope s_Houseeq) s.heap.objs.size f cdv))) :
    PSs (cxOf CX0 P w K mg base N_Houseeq "House.__eq__" (defScope s_Houseeq) f cdv A outer s H E).nox (defBody s_Houseeq) (t_Houseeq P w K ) := by
  have hu := hu_of hr
  have hu3 := hu2' hr
  have hu4 := hu64 hr
  have hu5 := hu65 hr
  exact (pss_cons (ps_if (pt_not (pt_val (pe_callB (C8.call_isC G.insH) (by rfl) G.m_isinstance PyProof.Rows.boot_isinstance (pa_cons (pv 1) (pa_cons (pe_glob (v := .ref (cH K)) (by rfl) G.g_House (by rfl)) pa_nil))))) (pss_one (ps_ret pe_bl)) pss_nil)
      (pss_one (ps_ret (pe_cmpR (op_eqD hu4) (pe_tup (pa_cons (pe_fld (pv 0) (by rfl)) (pa_cons (pe_fld (pv 0) (by rfl)) (pa_cons (pe_fld (pv 0) (by rfl)) pa_nil)))) (pe_tup (pa_cons (pe_fld (pv 1) (by rfl)) (pa_cons (pe_fld (pv 1) (by rfl)) (pa_cons (pe_fld (pv 1) (by rfl)) pa_nil)))) (nomark _)))))
abbrev N_need_house : List Str := ["value"]
theorem sc_need_house : FnScope N_need_house ["value"] (defScope s_need_house) := ⟨rfl, rfl, rfl, by decide +kernel, rfl, by decide +kernel, by decide +kernel⟩
def t_need_house (P : Program) (w : World) (K : PySem.W.Frag) : TS := (tSeq (tIfS (tNot (tB (tCB (rIsC (cH K)) (tCons (tVar 0) (tCons (tC (.ref (cH K))) tNil))))) tNever tNext)
  (tRet (tVar 0)))
theorem dv_need_house {P : Program} {w : World} {K : PySem.W.Frag} {mg : Str → Option Value} {base : Heap} (G : Gs K mg) {cdv : Value} {A : Around} {outer : List Env} {s : Shared} {H : Hp} {E : XK} {f : Addr} (hr : Room 0 (A.deeper (envOfC "need_house" (defScope s_need_house) s.heap.objs.size f cdv))) :
    PSs (cxOf CX0 P w K mg base N_need_house "need_house" (defScope s_need_house) f cdv A outer s H E).nox (defBody s_need_house) (t_need_house P w K ) := by
  have hu := hu_of hr
  have hu3 := hu2' hr
  have hu4 := hu64 hr
  have hu5 := hu65 hr
  exact (pss_cons (ps_if (pt_not (pt_val (pe_callB (C8.call_isC G.insH) (by rfl) G.m_isinstance PyProof.Rows.boot_isinstance (pa_cons (pv 0) (pa_cons (pe_glob (v := .ref (cH K)) (by rfl) G.g_House (by rfl)) pa_nil))))) pss_never pss_nil)
      (pss_one (ps_ret (pv 0))))
abbrev N_need_question : List Str := ["house", "value", "at", "answer"]
theorem sc_need_question : FnScope N_need_question ["house", "value"] (defScope s_need_question) := ⟨rfl, rfl, rfl, by decide +kernel, rfl, by decide +kernel, by decide +kernel⟩
def t_need_question (P : Program) (w : World) (K : PySem.W.Frag) (sp_need_house : Sp) (sp_is_sequence : Sp) (sp_is_number : Sp) (sp_Houselen : Sp) : TS := (tSeq (tDrop (tCall sp_need_house [] E0 (tCons (tVar 0) tNil)))
  (tSeq (tIfS (tOr (tNot (tB (tCall sp_is_sequence [] E0 (tCons (tVar 1) tNil)))) (tTest (tOp rNe (tCB (rLn K) (tCons (tVar 1) tNil)) (tCB (rLenH (cH K) sp_Houselen) (tCons (tVar 0) tNil))))) tNever tNext)
  (tSeq (tFor (iEnK K (tCons (tVar 1) tNil)) (gTup K 2 (gCons (gName 2) (gCons (gName 3) gNil))) (tIfS (tNot (tB (tCall sp_is_number [] E0 (tCons (tVar 3) tNil)))) tNever tNext))
  (tRet (tThen (tVar 1) (kTup K))))))
theorem dv_need_question {P : Program} {w : World} {K : PySem.W.Frag} {mg : Str → Option Value} {base : Heap} (G : Gs K mg) {sp_need_house : Sp} {sp_is_sequence : Sp} {sp_is_number : Sp} {sp_Houselen : Sp} (C_need_house : C8.Cal P w K mg base 1 "need_house" sp_need_house []) (C_is_sequence : C8.Cal P w K mg base 1 "is_sequence" sp_is_sequence []) (C_is_number : C8.Cal P w K mg base 2 "is_number" sp_is_number []) (C_Houselen : C8.Met P w K mg base 1 (cH K) "__len__" sp_Houselen []) {cdv : Value} {A : Around} {outer : List Env} {s : Shared} {H : Hp} {E : XK} {f : Addr} (hr : Room 2 (A.deeper (envOfC "need_question" (defScope s_need_question) s.heap.objs.size f cdv))) :
    PSs (cxOf CX0 P w K mg base N_need_question "need_question" (defScope s_need_question) f cdv A outer s H E).nox (defBody s_need_question) (t_need_question P w K sp_need_house sp_is_sequence sp_is_number sp_Houselen) := by
  have hu := hu_of hr
  have hu3 := hu2' hr
  have hu4 := hu64 hr
  have hu5 := hu65 hr
  exact (pss_cons (ps_expr (C8.pe_c C_need_house hr (by decide) (by rfl) (pa_cons (pv 0) pa_nil)))
      (pss_cons (ps_if (PW.pt (pw_or (pt_not (pt_val (C8.pe_c C_is_sequence hr (by decide) (by rfl) (pa_cons (pv 1) pa_nil)))) (pw_or1 (pt_cmpR op_ne (pe_callB (r := rLn K) call_len_seq (by rfl) G.m_len PySem.boot_len (pa_cons (pv 1) pa_nil)) (pe_callB (call_lenH C_Houselen hr (by decide)) (by rfl) G.m_len PySem.boot_len (pa_cons (pv 0) pa_nil)) (nomark _))))) pss_never pss_nil)
      (pss_cons (ps_for PassesOwn.never (by rfl) (pi_enumK (by rfl) G.m_enumerate (pa_cons (pv 1) pa_nil)) (pg_tup (by rfl) (pgs_cons (pg_name (i := 2) sc_need_question.nd (by rfl) (by exact .inl rfl) (hf := by exact .inl rfl)) (pgs_cons (pg_name (i := 3) sc_need_question.nd (by rfl) (by exact .inl rfl) (hf := by exact .inl rfl)) pgs_nil))) (pss_one (ps_if (pt_not (pt_val (C8.pe_c C_is_number hr (by decide) (by rfl) (pa_cons (pv 3) pa_nil)))) pss_never pss_nil)))
      (pss_one (ps_ret (pe_tupleOf (by rfl) G.m_tuple (pv 1)))))))
abbrev N_is_window : List Str := ["house", "value", "at", "cell"]
theorem sc_is_window : FnScope N_is_window ["house", "value"] (defScope s_is_window) := ⟨rfl, rfl, rfl, by decide +kernel, rfl, by decide +kernel, by decide +kernel⟩
def t_is_window (P : Program) (w : World) (K : PySem.W.Frag) (sp_is_sequence : Sp) (sp_is_number : Sp) : TS := (tSeq (tIfS (tOr (tNot (tB (tCall sp_is_sequence [] E0 (tCons (tVar 1) tNil)))) (tTest (tOp rEq (tCB (rLn K) (tCons (tVar 1) tNil)) (tC (.int 0))))) (tRet (tC (.bl false))) tNext)
  (tSeq (tFor (iEnK K (tCons (tVar 1) tNil)) (gTup K 2 (gCons (gName 2) (gCons (gName 3) gNil))) (tIfS (tOr (tNot (tB (tCall sp_is_number [] E0 (tCons (tVar 3) tNil)))) (tOr (tTest (tOp (rI0 fun i j => .bl (decide (j ≤ i))) (tVar 3) (tCB (rLn K) (tCons (tFld K (tVar 0) "sizes") tNil)))) (tAnd (tTest (tOp (rI0 fun i j => .bl (decide (j < i))) (tVar 2) (tC (.int 0)))) (tTest (tOp (rI0 fun i j => .bl (decide (i ≤ j))) (tVar 3) (tOp (rIxT K) (tVar 1) (tOp (rI0 fun i j => .int (i - j)) (tVar 2) (tC (.int 1))))))))) (tRet (tC (.bl false))) tNext))
  (tRet (tC (.bl true)))))
theorem dv_is_window {P : Program} {w : World} {K : PySem.W.Frag} {mg : Str → Option Value} {base : Heap} (G : Gs K mg) {sp_is_sequence : Sp} {sp_is_number : Sp} (C_is_sequence : C8.Cal P w K mg base 1 "is_sequence" sp_is_sequence []) (C_is_number : C8.Cal P w K mg base 2 "is_number" sp_is_number []) {cdv : Value} {A : Around} {outer : List Env} {s : Shared} {H : Hp} {E : XK} {f : Addr} (hr : Room 2 (A.deeper (envOfC "is_window" (defScope s_is_window) s.heap.objs.size f cdv))) :
    PSs (cxOf CX0 P w K mg base N_is_window "is_window" (defScope s_is_window) f cdv A outer s H E).nox (defBody s_is_window) (t_is_window P w K sp_is_sequence sp_is_number) := by
  have hu := hu_of hr
  have hu3 := hu2' hr
  have hu4 := hu64 hr
  have hu5 := hu65 hr
  exact (pss_cons (ps_if (PW.pt (pw_or (pt_not (pt_val (C8.pe_c C_is_sequence hr (by decide) (by rfl) (pa_cons (pv 1) pa_nil)))) (pw_or1 (pt_cmpR op_eq (pe_callB (r := rLn K) call_len_seq (by rfl) G.m_len PySem.boot_len (pa_cons (pv 1) pa_nil)) pe_int (nomark _))))) (pss_one (ps_ret pe_bl)) pss_nil)
      (pss_cons (ps_for PassesOwn.never (by rfl) (pi_enumK (by rfl) G.m_enumerate (pa_cons (pv 1) pa_nil)) (pg_tup (by rfl) (pgs_cons (pg_name (i := 2) sc_is_window.nd (by rfl) (by exact .inl rfl) (hf := by exact .inl rfl)) (pgs_cons (pg_name (i := 3) sc_is_window.nd (by rfl) (by exact .inl rfl) (hf := by exact .inl rfl)) pgs_nil))) (pss_one (ps_if (PW.pt (pw_or (pt_not (pt_val (C8.pe_c C_is_number hr (by decide) (by rfl) (pa_cons (pv 3) pa_nil)))) (pw_or (pt_cmpR op_ge (pv 3) (pe_callB (r := rLn K) call_len_seq (by rfl) G.m_len PySem.boot_len (pa_cons (pe_fld (pv 0) (by rfl)) pa_nil)) (nomark _)) (pw_or1 (PW.pt (pw_and (pt_cmpR op_gt (pv 2) pe_int (nomark _)) (pw_and1 (pt_cmpR op_le (pv 3) (pe_ix ix_tup (pv 1) (pe_op op_sub (pv 2) pe_int) (by exact fun _ _ => rfl)) (nomark _))))))))) (pss_one (ps_ret pe_bl)) pss_nil)))
      (pss_one (ps_ret pe_bl))))
abbrev N_need_view : List Str := ["house", "value", "windows", "at", "window"]
theorem sc_need_view : FnScope N_need_view ["house", "value"] (defScope s_need_view) := ⟨rfl, rfl, rfl, by decide +kernel, rfl, by decide +kernel, by decide +kernel⟩
def t_need_view (P : Program) (w : World) (K : PySem.W.Frag) (sp_need_house : Sp) (sp_is_sequence : Sp) (sp_is_window : Sp) : TS := (tSeq (tDrop (tCall sp_need_house [] E0 (tCons (tVar 0) tNil)))
  (tSeq (tIfS (tOr (tNot (tB (tCall sp_is_sequence [] E0 (tCons (tVar 1) tNil)))) (tTest (tOp rEq (tCB (rLn K) (tCons (tVar 1) tNil)) (tC (.int 0))))) tNever tNext)
  (tSeq (tAsg (tLst tNil) (gName 2))
  (tSeq (tFor (iEnK K (tCons (tVar 1) tNil)) (gTup K 2 (gCons (gName 3) (gCons (gName 4) gNil))) (tSeq (tIfS (tOr (tNot (tB (tCall sp_is_window [] E0 (tCons (tVar 0) (tCons (tVar 4) tNil))))) (tTest (tOp (rInD K) (tThen (tVar 4) (kTup K)) (tVar 2)))) tNever tNext)
  (tDrop (tBM K "list" rAppend (tVar 2) (tCons (tThen (tVar 4) (kTup K)) tNil)))))
  (tRet (tThen (tVar 2) (kTup K)))))))
theorem dv_need_view {P : Program} {w : World} {K : PySem.W.Frag} {mg : Str → Option Value} {base : Heap} (G : Gs K mg) {sp_need_house : Sp} {sp_is_sequence : Sp} {sp_is_window : Sp} (C_need_house : C8.Cal P w K mg base 1 "need_house" sp_need_house []) (C_is_sequence : C8.Cal P w K mg base 1 "is_sequence" sp_is_sequence []) (C_is_window : C8.Cal P w K mg base 3 "is_window" sp_is_window []) {cdv : Value} {A : Around} {outer : List Env} {s : Shared} {H : Hp} {E : XK} {f : Addr} (hr : Room 3 (A.deeper (envOfC "need_view" (defScope s_need_view) s.heap.objs.size f cdv))) :
    PSs (cxOf CX0 P w K mg base N_need_view "need_view" (defScope s_need_view) f cdv A outer s H E).nox (defBody s_need_view) (t_need_view P w K sp_need_house sp_is_sequence sp_is_window) := by
  have hu := hu_of hr
  have hu3 := hu2' hr
  have hu4 := hu64 hr
  have hu5 := hu65 hr
  exact (pss_cons (ps_expr (C8.pe_c C_need_house hr (by decide) (by rfl) (pa_cons (pv 0) pa_nil)))
      (pss_cons (ps_if (PW.pt (pw_or (pt_not (pt_val (C8.pe_c C_is_sequence hr (by decide) (by rfl) (pa_cons (pv 1) pa_nil)))) (pw_or1 (pt_cmpR op_eq (pe_callB (r := rLn K) call_len_seq (by rfl) G.m_len PySem.boot_len (pa_cons (pv 1) pa_nil)) pe_int (nomark _))))) pss_never pss_nil)
      (pss_cons (ps_set (i := 2) sc_need_view.nd (by rfl) (by exact .inl rfl) (pe_lst pa_nil))
      (pss_cons (ps_for PassesOwn.never (by rfl) (pi_enumK (by rfl) G.m_enumerate (pa_cons (pv 1) pa_nil)) (pg_tup (by rfl) (pgs_cons (pg_name (i := 3) sc_need_view.nd (by rfl) (by exact .inl rfl) (hf := by exact .inl rfl)) (pgs_cons (pg_name (i := 4) sc_need_view.nd (by rfl) (by exact .inl rfl) (hf := by exact .inl rfl)) pgs_nil))) (pss_cons (ps_if (PW.pt (pw_or (pt_not (pt_val (C8.pe_c C_is_window hr (by decide) (by rfl) (pa_cons (pv 0) (pa_cons (pv 4) pa_nil))))) (pw_or1 (pt_cmpR (op_inD hu5) (pe_tupleOf (by rfl) G.m_tuple (pv 4)) (pv 2) (by exact (by rfl)))))) pss_never pss_nil)
      (pss_one (ps_expr (pe_bm PySem.F.plainAttrs_list PySem.F.slot_list_append PySem.F.type_list_append mt_append (pv 2) (pa_cons (pe_tupleOf (by rfl) G.m_tuple (pv 4)) pa_nil))))))
      (pss_one (ps_ret (pe_tupleOf (by rfl) G.m_tuple (pv 2))))))))
abbrev N_cell_view : List Str := ["house", "cell"]
theorem sc_cell_view : FnScope N_cell_view ["house"] (defScope s_cell_view) := ⟨rfl, rfl, rfl, by decide +kernel, rfl, by decide +kernel, by decide +kernel⟩
def t_cell_view (P : Program) (w : World) (K : PySem.W.Frag) (sp_need_house : Sp) : TS := (tRet (tThen (tLc (iRng1 (tCons (tCB (rLn K) (tCons (tFld K (tCall sp_need_house [] E0 (tCons (tVar 0) tNil)) "sizes") tNil)) tNil)) (gName 1) tYes (tTup (tCons (tVar 1) tNil)) [1]) (kTup K)))
theorem dv_cell_view {P : Program} {w : World} {K : PySem.W.Frag} {mg : Str → Option Value} {base : Heap} (G : Gs K mg) {sp_need_house : Sp} (C_need_house : C8.Cal P w K mg base 1 "need_house" sp_need_house []) {cdv : Value} {A : Around} {outer : List Env} {s : Shared} {H : Hp} {E : XK} {f : Addr} (hr : Room 1 (A.deeper (envOfC "cell_view" (defScope s_cell_view) s.heap.objs.size f cdv))) :
    PSs (cxOf CX0 P w K mg base N_cell_view "cell_view" (defScope s_cell_view) f cdv A outer s H E).nox (defBody s_cell_view) (t_cell_view P w K sp_need_house) := by
  have hu := hu_of hr
  have hu3 := hu2' hr
  have hu4 := hu64 hr
  have hu5 := hu65 hr
  exact (pss_one (ps_ret (pe_tupleOf (by rfl) G.m_tuple (pe_lc (own := [("cell", 1)]) (g := (gName 1)) (tt := tYes) (te := (tTup (tCons (tVar 1) tNil))) (by rfl) sc_cell_view.nd (pi_range1 (by rfl) G.m_range (pa_cons (pe_callB (r := rLn K) call_len_seq (by rfl) G.m_len PySem.boot_len (pa_cons (pe_fld (C8.pe_c C_need_house hr (by decide) (by rfl) (pa_cons (pv 0) pa_nil)) (by rfl)) pa_nil)) pa_nil)) (blkOk_by (N := N_cell_view) (sc := defScope s_cell_view) (by decide +kernel)) (fun _ _ _ _ _ => (pg_name (i := 1) sc_cell_view.nd (by rfl) (by exact .inl rfl) (hf := by exact .inr rfl))) (fun _ _ _ _ _ => pts_nil) (fun _ _ _ _ _ => (pe_tup (pa_cons (pv 1) pa_nil)))))))
abbrev N_seen_at : List Str := ["house", "window", "number", "cell"]
theorem sc_seen_at : FnScope N_seen_at ["house", "window", "number"] (defScope s_seen_at) := ⟨rfl, rfl, rfl, by decide +kernel, rfl, by decide +kernel, by decide +kernel⟩
def t_seen_at (P : Program) (w : World) (K : PySem.W.Frag) : TS := (tRet (tThen (tLc (iSeq K (tVar 1)) (gName 3) tYes (tOp (rIxT K) (tOp (rIxT K) (tFld K (tVar 0) "standings") (tVar 2)) (tVar 3)) [3]) (kTup K)))
theorem dv_seen_at {P : Program} {w : World} {K : PySem.W.Frag} {mg : Str → Option Value} {base : Heap} (G : Gs K mg) {cdv : Value} {A : Around} {outer : List Env} {s : Shared} {H : Hp} {E : XK} {f : Addr} (hr : Room 0 (A.deeper (envOfC "seen_at" (defScope s_seen_at) s.heap.objs.size f cdv))) :
    PSs (cxOf CX0 P w K mg base N_seen_at "seen_at" (defScope s_seen_at) f cdv A outer s H E).nox (defBody s_seen_at) (t_seen_at P w K ) := by
  have hu := hu_of hr
  have hu3 := hu2' hr
  have hu4 := hu64 hr
  have hu5 := hu65 hr
  exact (pss_one (ps_ret (pe_tupleOf (by rfl) G.m_tuple (pe_lc (own := [("cell", 3)]) (g := (gName 3)) (tt := tYes) (te := (tOp (rIxT K) (tOp (rIxT K) (tFld K (tVar 0) "standings") (tVar 2)) (tVar 3))) (by rfl) sc_seen_at.nd (pi_seq (pv 1)) (blkOk_by (N := N_seen_at) (sc := defScope s_seen_at) (by decide +kernel)) (fun _ _ _ _ _ => (pg_name (i := 3) sc_seen_at.nd (by rfl) (by exact .inl rfl) (hf := by exact .inr rfl))) (fun _ _ _ _ _ => pts_nil) (fun _ _ _ _ _ => (pe_ix ix_tup (pe_ix ix_tup (pe_fld (pv 0) (by rfl)) (pv 2) (by exact fun _ _ => rfl)) (pv 3) (by exact fun _ _ => rfl)))))))
abbrev N_shown_contents : List Str := ["house", "view", "window", "number"]
theorem sc_shown_contents : FnScope N_shown_contents ["house", "view"] (defScope s_shown_contents) := ⟨rfl, rfl, rfl, by decide +kernel, rfl, by decide +kernel, by decide +kernel⟩
abbrev csc_shown_contents : Scope := { kind := ScopeKind.function, names := [(Str.ofString ".0", NameKind.local), (Str.ofString "window", NameKind.cell), (Str.ofString "sorted", NameKind.globalImplicit), (Str.ofString "range", NameKind.globalImplicit), (Str.ofString "len", NameKind.globalImplicit), (Str.ofString "house", NameKind.cell)], isGenerator := false, isCoroutine := false }
def t_shown_contents (P : Program) (w : World) (K : PySem.W.Frag) (sp_seen_at : Sp) (sp_Houselen : Sp) : TS := (tRet (tLc (iSeq K (tVar 1)) (gName 2) tYes (tCB (rSortedT K P w) (tCons (tCo (fun D => SetTO P w D []) (iRng1 (tCons (tCB (rLenH (cH K) sp_Houselen) (tCons (tVar 0) tNil)) tNil)) (gName 3) tYes (addS K P w (tCall sp_seen_at [] E0 (tCons (tVar 0) (tCons (tVar 2) (tCons (tVar 3) tNil))))) [3]) tNil)) [2]))
theorem dv_shown_contents {P : Program} {w : World} {K : PySem.W.Frag} {mg : Str → Option Value} {base : Heap} (G : Gs K mg) {sp_seen_at : Sp} {sp_Houselen : Sp} (C_seen_at : C8.Cal P w K mg base 1 "seen_at" sp_seen_at []) (C_Houselen : C8.Met P w K mg base 1 (cH K) "__len__" sp_Houselen []) {cdv : Value} {A : Around} {outer : List Env} {s : Shared} {H : Hp} {E : XK} {f : Addr} (hr : Room 2 (A.deeper (envOfC "shown_contents" (defScope s_shown_contents) s.heap.objs.size f cdv))) :
    PSs (cxOf CX0 P w K mg base N_shown_contents "shown_contents" (defScope s_shown_contents) f cdv A outer s H E).nox (defBody s_shown_contents) (t_shown_contents P w K sp_seen_at sp_Houselen) := by
  have hu := hu_of hr
  have hu3 := hu2' hr
  have hu4 := hu64 hr
  have hu5 := hu65 hr
  exact (pss_one (ps_ret (pe_lc (own := [("window", 2)]) (g := (gName 2)) (tt := tYes) (te := (tCB (rSortedT K P w) (tCons (tCo (fun D => SetTO P w D []) (iRng1 (tCons (tCB (rLenH (cH K) sp_Houselen) (tCons (tVar 0) tNil)) tNil)) (gName 3) tYes (addS K P w (tCall sp_seen_at [] E0 (tCons (tVar 0) (tCons (tVar 2) (tCons (tVar 3) tNil))))) [3]) tNil))) (by rfl) sc_shown_contents.nd (pi_seq (pv 1)) (blkOk_by (N := N_shown_contents) (sc := defScope s_shown_contents) (by decide +kernel)) (fun _ _ _ _ _ => (pg_name (i := 2) sc_shown_contents.nd (by rfl) (by exact .inr rfl) (hf := by exact .inl rfl))) (fun _ _ _ _ _ => pts_nil) (fun _ _ _ _ _ => (pe_callB (cr_sortedT (by rfl)) (by rfl) G.m_sorted PyProof.Rows.boot_sorted (pa_cons (pe_scT (own := [("number", 3)]) (g := (gName 3)) (tt := tYes) (te := (tCall sp_seen_at [] E0 (tCons (tVar 0) (tCons (tVar 2) (tCons (tVar 3) tNil))))) hu3 (by rfl) sc_shown_contents.nd (pi_range1 (by rfl) G.m_range (pa_cons (pe_callB (call_lenH C_Houselen hr (by decide)) (by rfl) G.m_len PySem.boot_len (pa_cons (pv 0) pa_nil)) pa_nil)) (blkOk_by (N := N_shown_contents) (sc := csc_shown_contents) (by decide +kernel)) (fun _ _ _ _ _ => (pg_name (i := 3) sc_shown_contents.nd (by rfl) (by exact .inl rfl) (hf := by exact .inr rfl))) (fun _ _ _ _ _ => pts_nil) (fun _ _ _ _ _ => (C8.pe_c C_seen_at hr (by decide) (by rfl) (pa_cons (pv 0) (pa_cons (pv 2) (pa_cons (pv 3) pa_nil)))))) pa_nil))))))
abbrev N_is_shown : List Str := ["contents", "value", "one"]
theorem sc_is_shown : FnScope N_is_shown ["contents", "value"] (defScope s_is_shown) := ⟨rfl, rfl, rfl, by decide +kernel, rfl, by decide +kernel, by decide +kernel⟩
def t_is_shown (P : Program) (w : World) (K : PySem.W.Frag) (sp_is_number : Sp) : TS := (tRet (tAndV (tCB (rIsi K) (tCons (tVar 1) (tCons (tC (.ty "tuple")) tNil))) (tAndV (tCB (rAll K) (tCons (tLc (iSeq K (tVar 1)) (gName 2) tYes (tCall sp_is_number [] E0 (tCons (tVar 2) tNil)) [2]) tNil)) (tOp (rInD K) (tVar 1) (tVar 0)))))
theorem dv_is_shown {P : Program} {w : World} {K : PySem.W.Frag} {mg : Str → Option Value} {base : Heap} (G : Gs K mg) {sp_is_number : Sp} (C_is_number : C8.Cal P w K mg base 2 "is_number" sp_is_number []) {cdv : Value} {A : Around} {outer : List Env} {s : Shared} {H : Hp} {E : XK} {f : Addr} (hr : Room 2 (A.deeper (envOfC "is_shown" (defScope s_is_shown) s.heap.objs.size f cdv))) :
    PSs (cxOf CX0 P w K mg base N_is_shown "is_shown" (defScope s_is_shown) f cdv A outer s H E).nox (defBody s_is_shown) (t_is_shown P w K sp_is_number) := by
  have hu := hu_of hr
  have hu3 := hu2' hr
  have hu4 := hu64 hr
  have hu5 := hu65 hr
  exact (pss_one (ps_ret (pe_and (pe_callB call_isi (by rfl) G.m_isinstance PyProof.Rows.boot_isinstance (pa_cons (pv 1) (pa_cons (pe_bltn (v := .ty "tuple") (by rfl) G.m_tuple PyProof.Rows.boot_tuple (by rfl)) pa_nil))) (pe_and (pe_callB (cr_all (by rfl)) (by rfl) G.m_all PyProof.Rows.boot_all (pa_cons (pe_lc (own := [("one", 2)]) (g := (gName 2)) (tt := tYes) (te := (tCall sp_is_number [] E0 (tCons (tVar 2) tNil))) (by rfl) sc_is_shown.nd (pi_seq (pv 1)) (blkOk_by (N := N_is_shown) (sc := defScope s_is_shown) (by decide +kernel)) (fun _ _ _ _ _ => (pg_name (i := 2) sc_is_shown.nd (by rfl) (by exact .inl rfl) (hf := by exact .inr rfl))) (fun _ _ _ _ _ => pts_nil) (fun _ _ _ _ _ => (C8.pe_c C_is_number hr (by decide) (by rfl) (pa_cons (pv 2) pa_nil)))) pa_nil)) (pe_one (pe_cmpR (op_inD hu5) (pv 1) (pv 0) (by exact (by rfl))))))))
abbrev N_need_row : List Str := ["house", "view", "value", "at", "contents"]
theorem sc_need_row : FnScope N_need_row ["house", "view", "value"] (defScope s_need_row) := ⟨rfl, rfl, rfl, by decide +kernel, rfl, by decide +kernel, by decide +kernel⟩
def t_need_row (P : Program) (w : World) (K : PySem.W.Frag) (sp_shown_contents : Sp) (sp_is_shown : Sp) : TS := (tSeq (tIfS (tOr (tNot (tB (tCB (rIsi K) (tCons (tVar 2) (tCons (tC (.ty "tuple")) tNil))))) (tTest (tOp rNe (tCB (rLn K) (tCons (tVar 2) tNil)) (tCB (rLn K) (tCons (tVar 1) tNil))))) tNever tNext)
  (tSeq (tFor (iEnK K (tCons (tCall sp_shown_contents [] E0 (tCons (tVar 0) (tCons (tVar 1) tNil))) tNil)) (gTup K 2 (gCons (gName 3) (gCons (gName 4) gNil))) (tIfS (tNot (tB (tCall sp_is_shown [] E0 (tCons (tVar 4) (tCons (tOp (rIxT K) (tVar 2) (tVar 3)) tNil))))) tNever tNext))
  (tRet (tVar 2))))
theorem dv_need_row {P : Program} {w : World} {K : PySem.W.Frag} {mg : Str → Option Value} {base : Heap} (G : Gs K mg) {sp_shown_contents : Sp} {sp_is_shown : Sp} (C_shown_contents : C8.Cal P w K mg base 3 "shown_contents" sp_shown_contents []) (C_is_shown : C8.Cal P w K mg base 3 "is_shown" sp_is_shown []) {cdv : Value} {A : Around} {outer : List Env} {s : Shared} {H : Hp} {E : XK} {f : Addr} (hr : Room 3 (A.deeper (envOfC "need_row" (defScope s_need_row) s.heap.objs.size f cdv))) :
    PSs (cxOf CX0 P w K mg base N_need_row "need_row" (defScope s_need_row) f cdv A outer s H E).nox (defBody s_need_row) (t_need_row P w K sp_shown_contents sp_is_shown) := by
  have hu := hu_of hr
  have hu3 := hu2' hr
  have hu4 := hu64 hr
  have hu5 := hu65 hr
  exact (pss_cons (ps_if (PW.pt (pw_or (pt_not (pt_val (pe_callB call_isi (by rfl) G.m_isinstance PyProof.Rows.boot_isinstance (pa_cons (pv 2) (pa_cons (pe_bltn (v := .ty "tuple") (by rfl) G.m_tuple PyProof.Rows.boot_tuple (by rfl)) pa_nil))))) (pw_or1 (pt_cmpR op_ne (pe_callB (r := rLn K) call_len_seq (by rfl) G.m_len PySem.boot_len (pa_cons (pv 2) pa_nil)) (pe_callB (r := rLn K) call_len_seq (by rfl) G.m_len PySem.boot_len (pa_cons (pv 1) pa_nil)) (nomark _))))) pss_never pss_nil)
      (pss_cons (ps_for PassesOwn.never (by rfl) (pi_enumK (by rfl) G.m_enumerate (pa_cons (C8.pe_c C_shown_contents hr (by decide) (by rfl) (pa_cons (pv 0) (pa_cons (pv 1) pa_nil))) pa_nil)) (pg_tup (by rfl) (pgs_cons (pg_name (i := 3) sc_need_row.nd (by rfl) (by exact .inl rfl) (hf := by exact .inl rfl)) (pgs_cons (pg_name (i := 4) sc_need_row.nd (by rfl) (by exact .inl rfl) (hf := by exact .inl rfl)) pgs_nil))) (pss_one (ps_if (pt_not (pt_val (C8.pe_c C_is_shown hr (by decide) (by rfl) (pa_cons (pv 4) (pa_cons (pe_ix ix_tup (pv 2) (pv 3) (by exact fun _ _ => rfl)) pa_nil))))) pss_never pss_nil)))
      (pss_one (ps_ret (pv 2)))))
abbrev N_need_word : List Str := ["many", "value", "at", "one"]
theorem sc_need_word : FnScope N_need_word ["many", "value"] (defScope s_need_word) := ⟨rfl, rfl, rfl, by decide +kernel, rfl, by decide +kernel, by decide +kernel⟩
def t_need_word (P : Program) (w : World) (K : PySem.W.Frag) (sp_is_sequence : Sp) (sp_is_number : Sp) : TS := (tSeq (tIfS (tNot (tB (tCall sp_is_sequence [] E0 (tCons (tVar 1) tNil)))) tNever tNext)
  (tSeq (tFor (iEnK K (tCons (tVar 1) tNil)) (gTup K 2 (gCons (gName 2) (gCons (gName 3) gNil))) (tIfS (tOr (tNot (tB (tCall sp_is_number [] E0 (tCons (tVar 3) tNil)))) (tTest (tOp (rI0 fun i j => .bl (decide (j ≤ i))) (tVar 3) (tVar 0)))) tNever tNext))
  (tRet (tThen (tVar 1) (kTup K)))))
theorem dv_need_word {P : Program} {w : World} {K : PySem.W.Frag} {mg : Str → Option Value} {base : Heap} (G : Gs K mg) {sp_is_sequence : Sp} {sp_is_number : Sp} (C_is_sequence : C8.Cal P w K mg base 1 "is_sequence" sp_is_sequence []) (C_is_number : C8.Cal P w K mg base 2 "is_number" sp_is_number []) {cdv : Value} {A : Around} {outer : List Env} {s : Shared} {H : Hp} {E : XK} {f : Addr} (hr : Room 2 (A.deeper (envOfC "need_word" (defScope s_need_word) s.heap.objs.size f cdv))) :
    PSs (cxOf CX0 P w K mg base N_need_word "need_word" (defScope s_need_word) f cdv A outer s H E).nox (defBody s_need_word) (t_need_word P w K sp_is_sequence sp_is_number) := by
  have hu := hu_of hr
  have hu3 := hu2' hr
  have hu4 := hu64 hr
  have hu5 := hu65 hr
  exact (pss_cons (ps_if (pt_not (pt_val (C8.pe_c C_is_sequence hr (by decide) (by rfl) (pa_cons (pv 1) pa_nil)))) pss_never pss_nil)
      (pss_cons (ps_for PassesOwn.never (by rfl) (pi_enumK (by rfl) G.m_enumerate (pa_cons (pv 1) pa_nil)) (pg_tup (by rfl) (pgs_cons (pg_name (i := 2) sc_need_word.nd (by rfl) (by exact .inl rfl) (hf := by exact .inl rfl)) (pgs_cons (pg_name (i := 3) sc_need_word.nd (by rfl) (by exact .inl rfl) (hf := by exact .inl rfl)) pgs_nil))) (pss_one (ps_if (PW.pt (pw_or (pt_not (pt_val (C8.pe_c C_is_number hr (by decide) (by rfl) (pa_cons (pv 3) pa_nil)))) (pw_or1 (pt_cmpR op_ge (pv 3) (pv 0) (nomark _))))) pss_never pss_nil)))
      (pss_one (ps_ret (pe_tupleOf (by rfl) G.m_tuple (pv 1))))))
abbrev N_need_sight : List Str := ["house", "view", "question", "answer", "row", "others", "shown", "window", "seen", "number", "one"]
theorem sc_need_sight : FnScope N_need_sight ["house", "view", "question", "answer", "row"] (defScope s_need_sight) := ⟨rfl, rfl, rfl, by decide +kernel, rfl, by decide +kernel, by decide +kernel⟩
def t_need_sight (P : Program) (w : World) (K : PySem.W.Frag) (sp_need_house : Sp) (sp_need_view : Sp) (sp_need_question : Sp) (sp_need_row : Sp) (sp_seen_at : Sp) : TS := (tSeq (tDrop (tCall sp_need_house [] E0 (tCons (tVar 0) tNil)))
  (tSeq (tAsg (tCall sp_need_view [] E0 (tCons (tVar 0) (tCons (tVar 1) tNil))) (gName 1))
  (tSeq (tAsg (tCall sp_need_question [] E0 (tCons (tVar 0) (tCons (tVar 2) tNil))) (gName 2))
  (tSeq (tAsg (tCall sp_need_row [] E0 (tCons (tVar 0) (tCons (tVar 1) (tCons (tVar 4) tNil)))) (gName 4))
  (tSeq (tAsg (tThen (tLc (iEnK K (tCons (tVar 2) tNil)) (gTup K 2 (gCons (gName 9) (gCons (gName 10) gNil))) (tTest (tOp rNe (tVar 10) (tVar 3))) (tVar 9) [9, 10]) (kTup K)) (gName 5))
  (tSeq (tAsg (tLst tNil) (gName 6))
  (tSeq (tFor (iZiK K (tCons (tVar 1) (tCons (tVar 4) tNil))) (gTup K 2 (gCons (gName 7) (gCons (gName 8) gNil))) (tDrop (tBM K "list" rAppend (tVar 6) (tCons (tThen (tLc (iSeq K (tVar 5)) (gName 9) (tTest (tOp (rEqD K) (tCall sp_seen_at [] E0 (tCons (tVar 0) (tCons (tVar 7) (tCons (tVar 9) tNil)))) (tVar 8))) (tVar 9) [9]) (kTup K)) tNil))))
  (tRet (tTup (tCons (tVar 5) (tCons (tThen (tVar 6) (kTup K)) tNil)))))))))))
theorem dv_need_sight {P : Program} {w : World} {K : PySem.W.Frag} {mg : Str → Option Value} {base : Heap} (G : Gs K mg) {sp_need_house : Sp} {sp_need_view : Sp} {sp_need_question : Sp} {sp_need_row : Sp} {sp_seen_at : Sp} (C_need_house : C8.Cal P w K mg base 1 "need_house" sp_need_house []) (C_need_view : C8.Cal P w K mg base 4 "need_view" sp_need_view []) (C_need_question : C8.Cal P w K mg base 3 "need_question" sp_need_question []) (C_need_row : C8.Cal P w K mg base 4 "need_row" sp_need_row []) (C_seen_at : C8.Cal P w K mg base 1 "seen_at" sp_seen_at []) {cdv : Value} {A : Around} {outer : List Env} {s : Shared} {H : Hp} {E : XK} {f : Addr} (hr : Room 4 (A.deeper (envOfC "need_sight" (defScope s_need_sight) s.heap.objs.size f cdv))) :
    PSs (cxOf CX0 P w K mg base N_need_sight "need_sight" (defScope s_need_sight) f cdv A outer s H E).nox (defBody s_need_sight) (t_need_sight P w K sp_need_house sp_need_view sp_need_question sp_need_row sp_seen_at) := by
  have hu := hu_of hr
  have hu3 := hu2' hr
  have hu4 := hu64 hr
  have hu5 := hu65 hr
  exact (pss_cons (ps_expr (C8.pe_c C_need_house hr (by decide) (by rfl) (pa_cons (pv 0) pa_nil)))
      (pss_cons (ps_set (i := 1) sc_need_sight.nd (by rfl) (by exact .inl rfl) (C8.pe_c C_need_view hr (by decide) (by rfl) (pa_cons (pv 0) (pa_cons (pv 1) pa_nil))))
      (pss_cons (ps_set (i := 2) sc_need_sight.nd (by rfl) (by exact .inl rfl) (C8.pe_c C_need_question hr (by decide) (by rfl) (pa_cons (pv 0) (pa_cons (pv 2) pa_nil))))
      (pss_cons (ps_set (i := 4) sc_need_sight.nd (by rfl) (by exact .inl rfl) (C8.pe_c C_need_row hr (by decide) (by rfl) (pa_cons (pv 0) (pa_cons (pv 1) (pa_cons (pv 4) pa_nil)))))
      (pss_cons (ps_set (i := 5) sc_need_sight.nd (by rfl) (by exact .inl rfl) (pe_tupleOf (by rfl) G.m_tuple (pe_lc (own := [("number", 9), ("one", 10)]) (g := (gTup K 2 (gCons (gName 9) (gCons (gName 10) gNil)))) (tt := (tTest (tOp rNe (tVar 10) (tVar 3)))) (te := (tVar 9)) (by rfl) sc_need_sight.nd (pi_enumK (by rfl) G.m_enumerate (pa_cons (pv 2) pa_nil)) (blkOk_by (N := N_need_sight) (sc := defScope s_need_sight) (by decide +kernel)) (fun _ _ _ _ _ => (pg_tup (by rfl) (pgs_cons (pg_name (i := 9) sc_need_sight.nd (by rfl) (by exact .inl rfl) (hf := by exact .inr rfl)) (pgs_cons (pg_name (i := 10) sc_need_sight.nd (by rfl) (by exact .inl rfl) (hf := by exact .inr rfl)) pgs_nil)))) (fun _ _ _ _ _ => (pts_one (pt_cmpR op_ne (pv 10) (pv 3) (nomark _)))) (fun _ _ _ _ _ => (pv 9)))))
      (pss_cons (ps_set (i := 6) sc_need_sight.nd (by rfl) (by exact .inl rfl) (pe_lst pa_nil))
      (pss_cons (ps_for PassesOwn.never (by rfl) (pi_zipK (by rfl) G.m_zip (pa_cons (pv 1) (pa_cons (pv 4) pa_nil))) (pg_tup (by rfl) (pgs_cons (pg_name (i := 7) sc_need_sight.nd (by rfl) (by exact .inr rfl) (hf := by exact .inl rfl)) (pgs_cons (pg_name (i := 8) sc_need_sight.nd (by rfl) (by exact .inr rfl) (hf := by exact .inl rfl)) pgs_nil))) (pss_one (ps_expr (pe_bm PySem.F.plainAttrs_list PySem.F.slot_list_append PySem.F.type_list_append mt_append (pv 6) (pa_cons (pe_tupleOf (by rfl) G.m_tuple (pe_lc (own := [("number", 9)]) (g := (gName 9)) (tt := (tTest (tOp (rEqD K) (tCall sp_seen_at [] E0 (tCons (tVar 0) (tCons (tVar 7) (tCons (tVar 9) tNil)))) (tVar 8)))) (te := (tVar 9)) (by rfl) sc_need_sight.nd (pi_seq (pv 5)) (blkOk_by (N := N_need_sight) (sc := defScope s_need_sight) (by decide +kernel)) (fun _ _ _ _ _ => (pg_name (i := 9) sc_need_sight.nd (by rfl) (by exact .inl rfl) (hf := by exact .inr rfl))) (fun _ _ _ _ _ => (pts_one (pt_cmpR (op_eqD hu4) (C8.pe_c C_seen_at hr (by decide) (by rfl) (pa_cons (pv 0) (pa_cons (pv 7) (pa_cons (pv 9) pa_nil)))) (pv 8) (nomark _)))) (fun _ _ _ _ _ => (pv 9)))) pa_nil)))))
      (pss_one (ps_ret (pe_tup (pa_cons (pv 5) (pa_cons (pe_tupleOf (by rfl) G.m_tuple (pv 6)) pa_nil))))))))))))
abbrev N_led_lot : List Str := ["house", "others", "starts", "inside", "met", "waiting", "goal", "number"]
theorem sc_led_lot : FnScope N_led_lot ["house", "others", "starts"] (defScope s_led_lot) := ⟨rfl, rfl, rfl, by decide +kernel, rfl, by decide +kernel, by decide +kernel⟩
def t_led_lot (P : Program) (w : World) (K : PySem.W.Frag) : TS := (tSeq (tAsg (tDc (iSeq K (tVar 1)) (gName 7) tYes (tVar 7) (tC (.bl true)) [7]) (gName 3))
  (tSeq (tAsg (tDc (iSeq K (tVar 2)) (gName 7) tYes (tVar 7) (tC (.bl true)) [7]) (gName 4))
  (tSeq (tAsg (tCB rListD (tCons (tVar 4) tNil)) (gName 5))
  (tSeq (tWhile (tTru K (tVar 5)) (tFor (iSeq K (tOp (rIxT K) (tFld K (tVar 0) "ahead") (tBM0 K "list" rPop (tVar 5)))) (gName 6) (tIfS (tAnd (tB (tDIn (tVar 6) (tVar 3))) (tB (tDNotIn (tVar 6) (tVar 4)))) (tSeq (sDPut (tVar 4) (tVar 6) (tC (.bl true)))
  (tDrop (tBM K "list" rAppend (tVar 5) (tCons (tVar 6) tNil)))) tNext)))
  (tRet (tThen (tCB rSortDI (tCons (tVar 4) tNil)) (kTup K)))))))
theorem dv_led_lot {P : Program} {w : World} {K : PySem.W.Frag} {mg : Str → Option Value} {base : Heap} (G : Gs K mg) {cdv : Value} {A : Around} {outer : List Env} {s : Shared} {H : Hp} {E : XK} {f : Addr} (hr : Room 0 (A.deeper (envOfC "led_lot" (defScope s_led_lot) s.heap.objs.size f cdv))) :
    PSs (cxOf CX0 P w K mg base N_led_lot "led_lot" (defScope s_led_lot) f cdv A outer s H E).nox (defBody s_led_lot) (t_led_lot P w K ) := by
  have hu := hu_of hr
  have hu3 := hu2' hr
  have hu4 := hu64 hr
  have hu5 := hu65 hr
  exact (pss_cons (ps_setDc (own := [("number", 7)]) (i := 3) (g := (gName 7)) (tt := tYes) (tk := (tVar 7)) (tv := (tC (.bl true))) (by rfl) sc_led_lot.nd (by rfl) (by rfl) (sw_trueD (by rfl) (by rfl) (by rfl) (by decide +kernel)) (pi_seq (pv 1)) (blkOk_by (N := N_led_lot) (sc := defScope s_led_lot) (by decide +kernel)) (fun _ _ _ _ _ => (pg_name (i := 7) sc_led_lot.nd (by rfl) (by exact .inl rfl) (hf := by exact .inr rfl))) (fun _ _ _ _ _ => pts_nil) (fun _ _ _ _ _ => (pv 7)) (fun _ _ _ _ _ => pe_bl))
      (pss_cons (ps_setDc (own := [("number", 7)]) (i := 4) (g := (gName 7)) (tt := tYes) (tk := (tVar 7)) (tv := (tC (.bl true))) (by rfl) sc_led_lot.nd (by rfl) (by rfl) (sw_trueD (by rfl) (by rfl) (by rfl) (by decide +kernel)) (pi_seq (pv 2)) (blkOk_by (N := N_led_lot) (sc := defScope s_led_lot) (by decide +kernel)) (fun _ _ _ _ _ => (pg_name (i := 7) sc_led_lot.nd (by rfl) (by exact .inl rfl) (hf := by exact .inr rfl))) (fun _ _ _ _ _ => pts_nil) (fun _ _ _ _ _ => (pv 7)) (fun _ _ _ _ _ => pe_bl))
      (pss_cons (ps_set (i := 5) sc_led_lot.nd (by rfl) (by exact .inl rfl) (pe_callTy (call_list_dK (by rfl)) (by rfl) G.m_list PyProof.Rows.boot_list (pa_cons (pv 4) pa_nil)))
      (pss_cons (ps_while PassesOwn.never (pt_truth (pv 5) (by intro _; rfl)) (pss_one (ps_for PassesOwn.never (by rfl) (pi_seq (pe_ix ix_tup (pe_fld (pv 0) (by rfl)) (pe_bm0 PySem.F.plainAttrs_list PySem.F.slot_list_pop PySem.F.type_list_pop mt_pop (pv 5)) (by exact fun _ _ => rfl))) (pg_name (i := 6) sc_led_lot.nd (by rfl) (by exact .inl rfl) (hf := by exact .inl rfl)) (pss_one (ps_if (PW.pt (pw_and (pt_cmp (pc_din hu (pv 6) (pv 3))) (pw_and1 (pt_cmp (pc_dnotin hu (pv 6) (pv 4)))))) (pss_cons (ps_dput hu (pv 4) (pv 6) pe_bl (by rfl))
      (pss_one (ps_expr (pe_bm PySem.F.plainAttrs_list PySem.F.slot_list_append PySem.F.type_list_append mt_append (pv 5) (pa_cons (pv 6) pa_nil))))) pss_nil)))))
      (pss_one (ps_ret (pe_tupleOf (by rfl) G.m_tuple (pe_callB (call_sortedDI (by rfl)) (by rfl) G.m_sorted PyProof.Rows.boot_sorted (pa_cons (pv 4) pa_nil)))))))))
abbrev N_left_lot : List Str := ["house", "others", "shown", "lot", "number"]
theorem sc_left_lot : FnScope N_left_lot ["house", "others", "shown", "lot"] (defScope s_left_lot) := ⟨rfl, rfl, rfl, by decide +kernel, rfl, by decide +kernel, by decide +kernel⟩
def t_left_lot (P : Program) (w : World) (K : PySem.W.Frag) (sp_led_lot : Sp) : TS := (tRet (tCall sp_led_lot [] E0 (tCons (tVar 0) (tCons (tVar 1) (tCons (tLc (iSeq K (tVar 3)) (gName 4) (tTest (tOp (rIn K false) (tVar 4) (tVar 2))) (tVar 4) [4]) tNil)))))
theorem dv_left_lot {P : Program} {w : World} {K : PySem.W.Frag} {mg : Str → Option Value} {base : Heap} (G : Gs K mg) {sp_led_lot : Sp} (C_led_lot : C8.Cal P w K mg base 1 "led_lot" sp_led_lot []) {cdv : Value} {A : Around} {outer : List Env} {s : Shared} {H : Hp} {E : XK} {f : Addr} (hr : Room 1 (A.deeper (envOfC "left_lot" (defScope s_left_lot) s.heap.objs.size f cdv))) :
    PSs (cxOf CX0 P w K mg base N_left_lot "left_lot" (defScope s_left_lot) f cdv A outer s H E).nox (defBody s_left_lot) (t_left_lot P w K sp_led_lot) := by
  have hu := hu_of hr
  have hu3 := hu2' hr
  have hu4 := hu64 hr
  have hu5 := hu65 hr
  exact (pss_one (ps_ret (C8.pe_c C_led_lot hr (by decide) (by rfl) (pa_cons (pv 0) (pa_cons (pv 1) (pa_cons (pe_lc (own := [("number", 4)]) (g := (gName 4)) (tt := (tTest (tOp (rIn K false) (tVar 4) (tVar 2)))) (te := (tVar 4)) (by rfl) sc_left_lot.nd (pi_seq (pv 3)) (blkOk_by (N := N_left_lot) (sc := defScope s_left_lot) (by decide +kernel)) (fun _ _ _ _ _ => (pg_name (i := 4) sc_left_lot.nd (by rfl) (by exact .inl rfl) (hf := by exact .inr rfl))) (fun _ _ _ _ _ => (pts_one (pt_cmpR op_in_seq (pv 4) (pv 2) (by exact (by rfl))))) (fun _ _ _ _ _ => (pv 4))) pa_nil))))))
abbrev N_dying_lots : List Str := ["house", "view", "question", "answer", "row", "word", "others", "shown", "lots", "window"]
theorem sc_dying_lots : FnScope N_dying_lots ["house", "view", "question", "answer", "row", "word"] (defScope s_dying_lots) := ⟨rfl, rfl, rfl, by decide +kernel, rfl, by decide +kernel, by decide +kernel⟩
def t_dying_lots (P : Program) (w : World) (K : PySem.W.Frag) (sp_need_sight : Sp) (sp_need_word : Sp) (sp_left_lot : Sp) : TS := (tSeq (tAsg (tCall sp_need_sight [] E0 (tCons (tVar 0) (tCons (tVar 1) (tCons (tVar 2) (tCons (tVar 3) (tCons (tVar 4) tNil)))))) (gTup K 2 (gCons (gName 6) (gCons (gName 7) gNil))))
  (tSeq (tAsg (tLst (tCons (tVar 6) tNil)) (gName 8))
  (tSeq (tFor (iSeq K (tCall sp_need_word [] E0 (tCons (tCB (rLn K) (tCons (tVar 7) tNil)) (tCons (tVar 5) tNil)))) (gName 9) (tSeq (tIfS (tNot (tTru K (tOp (rIxL K) (tVar 8) (tUn (rU fun i => .int (-i)) (tC (.int 1)))))) tBreak tNext)
  (tDrop (tBM K "list" rAppend (tVar 8) (tCons (tCall sp_left_lot [] E0 (tCons (tVar 0) (tCons (tVar 6) (tCons (tOp (rIxT K) (tVar 7) (tVar 9)) (tCons (tOp (rIxL K) (tVar 8) (tUn (rU fun i => .int (-i)) (tC (.int 1)))) tNil))))) tNil)))))
  (tRet (tThen (tVar 8) (kTup K))))))
theorem dv_dying_lots {P : Program} {w : World} {K : PySem.W.Frag} {mg : Str → Option Value} {base : Heap} (G : Gs K mg) {sp_need_sight : Sp} {sp_need_word : Sp} {sp_left_lot : Sp} (C_need_sight : C8.Cal P w K mg base 5 "need_sight" sp_need_sight []) (C_need_word : C8.Cal P w K mg base 3 "need_word" sp_need_word []) (C_left_lot : C8.Cal P w K mg base 2 "left_lot" sp_left_lot []) {cdv : Value} {A : Around} {outer : List Env} {s : Shared} {H : Hp} {E : XK} {f : Addr} (hr : Room 5 (A.deeper (envOfC "dying_lots" (defScope s_dying_lots) s.heap.objs.size f cdv))) :
    PSs (cxOf CX0 P w K mg base N_dying_lots "dying_lots" (defScope s_dying_lots) f cdv A outer s H E).nox (defBody s_dying_lots) (t_dying_lots P w K sp_need_sight sp_need_word sp_left_lot) := by
  have hu := hu_of hr
  have hu3 := hu2' hr
  have hu4 := hu64 hr
  have hu5 := hu65 hr
  exact (pss_cons (ps_asg (C8.pe_c C_need_sight hr (by decide) (by rfl) (pa_cons (pv 0) (pa_cons (pv 1) (pa_cons (pv 2) (pa_cons (pv 3) (pa_cons (pv 4) pa_nil)))))) (pg_tup (by rfl) (pgs_cons (pg_name (i := 6) sc_dying_lots.nd (by rfl) (by exact .inl rfl) (hf := by exact .inl rfl)) (pgs_cons (pg_name (i := 7) sc_dying_lots.nd (by rfl) (by exact .inl rfl) (hf := by exact .inl rfl)) pgs_nil))))
      (pss_cons (ps_set (i := 8) sc_dying_lots.nd (by rfl) (by exact .inl rfl) (pe_lst (pa_cons (pv 6) pa_nil)))
      (pss_cons (ps_for PassesOwn.never (by rfl) (pi_seq (C8.pe_c C_need_word hr (by decide) (by rfl) (pa_cons (pe_callB (r := rLn K) call_len_seq (by rfl) G.m_len PySem.boot_len (pa_cons (pv 7) pa_nil)) (pa_cons (pv 5) pa_nil)))) (pg_name (i := 9) sc_dying_lots.nd (by rfl) (by exact .inl rfl) (hf := by exact .inl rfl)) (pss_cons (ps_if (pt_not (pt_truth (pe_ix ix_list (pv 8) (pe_un un_neg pe_int) (by exact fun _ _ => rfl)) (by intro _; rfl))) (pss_one ps_break) pss_nil)
      (pss_one (ps_expr (pe_bm PySem.F.plainAttrs_list PySem.F.slot_list_append PySem.F.type_list_append mt_append (pv 8) (pa_cons (C8.pe_c C_left_lot hr (by decide) (by rfl) (pa_cons (pv 0) (pa_cons (pv 6) (pa_cons (pe_ix ix_tup (pv 7) (pv 9) (by exact fun _ _ => rfl)) (pa_cons (pe_ix ix_list (pv 8) (pe_un un_neg pe_int) (by exact fun _ _ => rfl)) pa_nil))))) pa_nil))))))
      (pss_one (ps_ret (pe_tupleOf (by rfl) G.m_tuple (pv 8)))))))
abbrev N_word_settles : List Str := ["house", "view", "question", "answer", "row", "word"]
theorem sc_word_settles : FnScope N_word_settles ["house", "view", "question", "answer", "row", "word"] (defScope s_word_settles) := ⟨rfl, rfl, rfl, by decide +kernel, rfl, by decide +kernel, by decide +kernel⟩
def t_word_settles (P : Program) (w : World) (K : PySem.W.Frag) (sp_dying_lots : Sp) : TS := (tRet (tNotT K (tOp (rIxT K) (tCall sp_dying_lots [] E0 (tCons (tVar 0) (tCons (tVar 1) (tCons (tVar 2) (tCons (tVar 3) (tCons (tVar 4) (tCons (tVar 5) tNil))))))) (tUn (rU fun i => .int (-i)) (tC (.int 1))))))
theorem dv_word_settles {P : Program} {w : World} {K : PySem.W.Frag} {mg : Str → Option Value} {base : Heap} (G : Gs K mg) {sp_dying_lots : Sp} (C_dying_lots : C8.Cal P w K mg base 6 "dying_lots" sp_dying_lots []) {cdv : Value} {A : Around} {outer : List Env} {s : Shared} {H : Hp} {E : XK} {f : Addr} (hr : Room 6 (A.deeper (envOfC "word_settles" (defScope s_word_settles) s.heap.objs.size f cdv))) :
    PSs (cxOf CX0 P w K mg base N_word_settles "word_settles" (defScope s_word_settles) f cdv A outer s H E).nox (defBody s_word_settles) (t_word_settles P w K sp_dying_lots) := by
  have hu := hu_of hr
  have hu3 := hu2' hr
  have hu4 := hu64 hr
  have hu5 := hu65 hr
  exact (pss_one (ps_ret (pe_notT (pe_ix ix_tup (C8.pe_c C_dying_lots hr (by decide) (by rfl) (pa_cons (pv 0) (pa_cons (pv 1) (pa_cons (pv 2) (pa_cons (pv 3) (pa_cons (pv 4) (pa_cons (pv 5) pa_nil))))))) (pe_un un_neg pe_int) (by exact fun _ _ => rfl)))))
abbrev N_shortest_word : List Str := ["house", "view", "question", "answer", "row", "others", "shown", "met", "layer", "following", "lot", "word", "window", "left"]
theorem sc_shortest_word : FnScope N_shortest_word ["house", "view", "question", "answer", "row"] (defScope s_shortest_word) := ⟨rfl, rfl, rfl, by decide +kernel, rfl, by decide +kernel, by decide +kernel⟩
def t_shortest_word (P : Program) (w : World) (K : PySem.W.Frag) (sp_need_sight : Sp) (sp_left_lot : Sp) : TS := (tSeq (tAsg (tCall sp_need_sight [] E0 (tCons (tVar 0) (tCons (tVar 1) (tCons (tVar 2) (tCons (tVar 3) (tCons (tVar 4) tNil)))))) (gTup K 2 (gCons (gName 5) (gCons (gName 6) gNil))))
  (tSeq (tIfS (tNot (tTru K (tVar 5))) (tRet (tTup tNil)) tNext)
  (tSeq (tAsg (tDOneT (tVar 5) (tC (.bl true))) (gName 7))
  (tSeq (tAsg (tLst (tCons (tTup (tCons (tVar 5) (tCons (tTup tNil) tNil))) tNil)) (gName 8))
  (tSeq (tWhile (tTru K (tVar 8)) (tSeq (tAsg (tLst tNil) (gName 9))
  (tSeq (tFor (iSeq K (tVar 8)) (gTup K 2 (gCons (gName 10) (gCons (gName 11) gNil))) (tFor (iRng1 (tCons (tCB (rLn K) (tCons (tVar 6) tNil)) tNil)) (gName 12) (tSeq (tAsg (tCall sp_left_lot [] E0 (tCons (tVar 0) (tCons (tVar 5) (tCons (tOp (rIxT K) (tVar 6) (tVar 12)) (tCons (tVar 10) tNil))))) (gName 13))
  (tSeq (tIfS (tNot (tTru K (tVar 13))) (tRet (tOp (rCatA K) (tVar 11) (tTup (tCons (tVar 12) tNil)))) tNext)
  (tIfS (tB (tDNotIn (tVar 13) (tVar 7))) (tSeq (sDPut (tVar 7) (tVar 13) (tC (.bl true)))
  (tDrop (tBM K "list" rAppend (tVar 9) (tCons (tTup (tCons (tVar 13) (tCons (tOp (rCatA K) (tVar 11) (tTup (tCons (tVar 12) tNil))) tNil))) tNil)))) tNext)))))
  (tAsg (tVar 9) (gName 8)))))
  (tRet (tC (.non))))))))
theorem dv_shortest_word {P : Program} {w : World} {K : PySem.W.Frag} {mg : Str → Option Value} {base : Heap} (G : Gs K mg) {sp_need_sight : Sp} {sp_left_lot : Sp} (C_need_sight : C8.Cal P w K mg base 5 "need_sight" sp_need_sight []) (C_left_lot : C8.Cal P w K mg base 2 "left_lot" sp_left_lot []) {cdv : Value} {A : Around} {outer : List Env} {s : Shared} {H : Hp} {E : XK} {f : Addr} (hr : Room 5 (A.deeper (envOfC "shortest_word" (defScope s_shortest_word) s.heap.objs.size f cdv))) :
    PSs (cxOf CX0 P w K mg base N_shortest_word "shortest_word" (defScope s_shortest_word) f cdv A outer s H E).nox (defBody s_shortest_word) (t_shortest_word P w K sp_need_sight sp_left_lot) := by
  have hu := hu_of hr
  have hu3 := hu2' hr
  have hu4 := hu64 hr
  have hu5 := hu65 hr
  exact (pss_cons (ps_asg (C8.pe_c C_need_sight hr (by decide) (by rfl) (pa_cons (pv 0) (pa_cons (pv 1) (pa_cons (pv 2) (pa_cons (pv 3) (pa_cons (pv 4) pa_nil)))))) (pg_tup (by rfl) (pgs_cons (pg_name (i := 5) sc_shortest_word.nd (by rfl) (by exact .inl rfl) (hf := by exact .inl rfl)) (pgs_cons (pg_name (i := 6) sc_shortest_word.nd (by rfl) (by exact .inl rfl) (hf := by exact .inl rfl)) pgs_nil))))
      (pss_cons (ps_if (pt_not (pt_truth (pv 5) (by intro _; rfl))) (pss_one (ps_ret (pe_tup pa_nil))) pss_nil)
      (pss_cons (ps_set (i := 7) sc_shortest_word.nd (by rfl) (by exact .inl rfl) (pe_dOneT hu (pv 5) pe_bl))
      (pss_cons (ps_set (i := 8) sc_shortest_word.nd (by rfl) (by exact .inl rfl) (pe_lst (pa_cons (pe_tup (pa_cons (pv 5) (pa_cons (pe_tup pa_nil) pa_nil))) pa_nil)))
      (pss_cons (ps_while PassesOwn.never (pt_truth (pv 8) (by intro _; rfl)) (pss_cons (ps_set (i := 9) sc_shortest_word.nd (by rfl) (by exact .inl rfl) (pe_lst pa_nil))
      (pss_cons (ps_for PassesOwn.never (by rfl) (pi_seq (pv 8)) (pg_tup (by rfl) (pgs_cons (pg_name (i := 10) sc_shortest_word.nd (by rfl) (by exact .inl rfl) (hf := by exact .inl rfl)) (pgs_cons (pg_name (i := 11) sc_shortest_word.nd (by rfl) (by exact .inl rfl) (hf := by exact .inl rfl)) pgs_nil))) (pss_one (ps_for PassesOwn.never (by rfl) (pi_range1 (by rfl) G.m_range (pa_cons (pe_callB (r := rLn K) call_len_seq (by rfl) G.m_len PySem.boot_len (pa_cons (pv 6) pa_nil)) pa_nil)) (pg_name (i := 12) sc_shortest_word.nd (by rfl) (by exact .inl rfl) (hf := by exact .inl rfl)) (pss_cons (ps_set (i := 13) sc_shortest_word.nd (by rfl) (by exact .inl rfl) (C8.pe_c C_left_lot hr (by decide) (by rfl) (pa_cons (pv 0) (pa_cons (pv 5) (pa_cons (pe_ix ix_tup (pv 6) (pv 12) (by exact fun _ _ => rfl)) (pa_cons (pv 10) pa_nil))))))
      (pss_cons (ps_if (pt_not (pt_truth (pv 13) (by intro _; rfl))) (pss_one (ps_ret (pe_op op_catA (pv 11) (pe_tup (pa_cons (pv 12) pa_nil))))) pss_nil)
      (pss_one (ps_if (pt_cmp (pc_dnotin hu (pv 13) (pv 7))) (pss_cons (ps_dput hu (pv 7) (pv 13) pe_bl (by rfl))
      (pss_one (ps_expr (pe_bm PySem.F.plainAttrs_list PySem.F.slot_list_append PySem.F.type_list_append mt_append (pv 9) (pa_cons (pe_tup (pa_cons (pv 13) (pa_cons (pe_op op_catA (pv 11) (pe_tup (pa_cons (pv 12) pa_nil))) pa_nil))) pa_nil))))) pss_nil)))))))
      (pss_one (ps_set (i := 8) sc_shortest_word.nd (by rfl) (by exact .inl rfl) (pv 9))))))
      (pss_one (ps_ret pe_non)))))))
abbrev N_fewest_looks : List Str := ["house", "view", "question", "answer", "row", "word"]
theorem sc_fewest_looks : FnScope N_fewest_looks ["house", "view", "question", "answer", "row"] (defScope s_fewest_looks) := ⟨rfl, rfl, rfl, by decide +kernel, rfl, by decide +kernel, by decide +kernel⟩
def t_fewest_looks (P : Program) (w : World) (K : PySem.W.Frag) (sp_shortest_word : Sp) : TS := (tSeq (tAsg (tCall sp_shortest_word [] E0 (tCons (tVar 0) (tCons (tVar 1) (tCons (tVar 2) (tCons (tVar 3) (tCons (tVar 4) tNil)))))) (gName 5))
  (tRet (tIf (tTest (tOp rIsNo (tVar 5) (tC (.non)))) (tC (.non)) (tCB (rLn K) (tCons (tVar 5) tNil)))))
theorem dv_fewest_looks {P : Program} {w : World} {K : PySem.W.Frag} {mg : Str → Option Value} {base : Heap} (G : Gs K mg) {sp_shortest_word : Sp} (C_shortest_word : C8.Cal P w K mg base 6 "shortest_word" sp_shortest_word []) {cdv : Value} {A : Around} {outer : List Env} {s : Shared} {H : Hp} {E : XK} {f : Addr} (hr : Room 6 (A.deeper (envOfC "fewest_looks" (defScope s_fewest_looks) s.heap.objs.size f cdv))) :
    PSs (cxOf CX0 P w K mg base N_fewest_looks "fewest_looks" (defScope s_fewest_looks) f cdv A outer s H E).nox (defBody s_fewest_looks) (t_fewest_looks P w K sp_shortest_word) := by
  have hu := hu_of hr
  have hu3 := hu2' hr
  have hu4 := hu64 hr
  have hu5 := hu65 hr
  exact (pss_cons (ps_set (i := 5) sc_fewest_looks.nd (by rfl) (by exact .inl rfl) (C8.pe_c C_shortest_word hr (by decide) (by rfl) (pa_cons (pv 0) (pa_cons (pv 1) (pa_cons (pv 2) (pa_cons (pv 3) (pa_cons (pv 4) pa_nil)))))))
      (pss_one (ps_ret (pe_ifExp (pt_cmpR op_isN (pv 5) pe_non (nomark _)) pe_non (pe_callB (r := rLn K) call_len_seq (by rfl) G.m_len PySem.boot_len (pa_cons (pv 5) pa_nil))))))
abbrev N_need_letters : List Str := ["value", "one"]
theorem sc_need_letters : FnScope N_need_letters ["value"] (defScope s_need_letters) := ⟨rfl, rfl, rfl, by decide +kernel, rfl, by decide +kernel, by decide +kernel⟩
def t_need_letters (P : Program) (w : World) (K : PySem.W.Frag) (sp_is_sequence : Sp) (sp_is_number : Sp) : TS := (tSeq (tIfS (tOr (tNot (tB (tCall sp_is_sequence [] E0 (tCons (tVar 0) tNil)))) (tNot (tB (tCB (rAll K) (tCons (tLc (iSeq K (tVar 0)) (gName 1) tYes (tCall sp_is_number [] E0 (tCons (tVar 1) tNil)) [1]) tNil))))) tNever tNext)
  (tRet (tThen (tVar 0) (kTup K))))
theorem dv_need_letters {P : Program} {w : World} {K : PySem.W.Frag} {mg : Str → Option Value} {base : Heap} (G : Gs K mg) {sp_is_sequence : Sp} {sp_is_number : Sp} (C_is_sequence : C8.Cal P w K mg base 1 "is_sequence" sp_is_sequence []) (C_is_number : C8.Cal P w K mg base 2 "is_number" sp_is_number []) {cdv : Value} {A : Around} {outer : List Env} {s : Shared} {H : Hp} {E : XK} {f : Addr} (hr : Room 2 (A.deeper (envOfC "need_letters" (defScope s_need_letters) s.heap.objs.size f cdv))) :
    PSs (cxOf CX0 P w K mg base N_need_letters "need_letters" (defScope s_need_letters) f cdv A outer s H E).nox (defBody s_need_letters) (t_need_letters P w K sp_is_sequence sp_is_number) := by
  have hu := hu_of hr
  have hu3 := hu2' hr
  have hu4 := hu64 hr
  have hu5 := hu65 hr
  exact (pss_cons (ps_if (PW.pt (pw_or (pt_not (pt_val (C8.pe_c C_is_sequence hr (by decide) (by rfl) (pa_cons (pv 0) pa_nil)))) (pw_or1 (pt_not (pt_val (pe_callB (cr_all (by rfl)) (by rfl) G.m_all PyProof.Rows.boot_all (pa_cons (pe_lc (own := [("one", 1)]) (g := (gName 1)) (tt := tYes) (te := (tCall sp_is_number [] E0 (tCons (tVar 1) tNil))) (by rfl) sc_need_letters.nd (pi_seq (pv 0)) (blkOk_by (N := N_need_letters) (sc := defScope s_need_letters) (by decide +kernel)) (fun _ _ _ _ _ => (pg_name (i := 1) sc_need_letters.nd (by rfl) (by exact .inl rfl) (hf := by exact .inr rfl))) (fun _ _ _ _ _ => pts_nil) (fun _ _ _ _ _ => (C8.pe_c C_is_number hr (by decide) (by rfl) (pa_cons (pv 1) pa_nil)))) pa_nil))))))) pss_never pss_nil)
      (pss_one (ps_ret (pe_tupleOf (by rfl) G.m_tuple (pv 0)))))
abbrev N_has_scattered : List Str := ["word", "lesser", "at", "one"]
theorem sc_has_scattered : FnScope N_has_scattered ["word", "lesser"] (defScope s_has_scattered) := ⟨rfl, rfl, rfl, by decide +kernel, rfl, by decide +kernel, by decide +kernel⟩
def t_has_scattered (P : Program) (w : World) (K : PySem.W.Frag) (sp_need_letters : Sp) : TS := (tSeq (tPar 0 1 (tCons (tCall sp_need_letters [] E0 (tCons (tVar 0) tNil)) (tCons (tCall sp_need_letters [] E0 (tCons (tVar 1) tNil)) tNil)))
  (tSeq (tAsg (tC (.int 0)) (gName 2))
  (tSeq (tFor (iSeq K (tVar 0)) (gName 3) (tIfS (tAnd (tTest (tOp (rI0 fun i j => .bl (decide (i < j))) (tVar 2) (tCB (rLn K) (tCons (tVar 1) tNil)))) (tTest (tOp rEq (tVar 3) (tOp (rIxT K) (tVar 1) (tVar 2))))) (tAsg (tOp (rI0 fun i j => .int (i + j)) (tVar 2) (tC (.int 1))) (gName 2)) tNext))
  (tRet (tOp rEq (tVar 2) (tCB (rLn K) (tCons (tVar 1) tNil)))))))
theorem dv_has_scattered {P : Program} {w : World} {K : PySem.W.Frag} {mg : Str → Option Value} {base : Heap} (G : Gs K mg) {sp_need_letters : Sp} (C_need_letters : C8.Cal P w K mg base 3 "need_letters" sp_need_letters []) {cdv : Value} {A : Around} {outer : List Env} {s : Shared} {H : Hp} {E : XK} {f : Addr} (hr : Room 3 (A.deeper (envOfC "has_scattered" (defScope s_has_scattered) s.heap.objs.size f cdv))) :
    PSs (cxOf CX0 P w K mg base N_has_scattered "has_scattered" (defScope s_has_scattered) f cdv A outer s H E).nox (defBody s_has_scattered) (t_has_scattered P w K sp_need_letters) := by
  have hu := hu_of hr
  have hu3 := hu2' hr
  have hu4 := hu64 hr
  have hu5 := hu65 hr
  exact (pss_cons (ps_par (i := 0) (j := 1) (by rfl) sc_has_scattered.nd (by rfl) (by rfl) (by decide) (by rfl) (by rfl) (pa_cons (C8.pe_c C_need_letters hr (by decide) (by rfl) (pa_cons (pv 0) pa_nil)) (pa_cons (C8.pe_c C_need_letters hr (by decide) (by rfl) (pa_cons (pv 1) pa_nil)) pa_nil)) (by kernel_rfl))
      (pss_cons (ps_set (i := 2) sc_has_scattered.nd (by rfl) (by exact .inl rfl) pe_int)
      (pss_cons (ps_for PassesOwn.never (by rfl) (pi_seq (pv 0)) (pg_name (i := 3) sc_has_scattered.nd (by rfl) (by exact .inl rfl) (hf := by exact .inl rfl)) (pss_one (ps_if (PW.pt (pw_and (pt_cmpR op_lt (pv 2) (pe_callB (r := rLn K) call_len_seq (by rfl) G.m_len PySem.boot_len (pa_cons (pv 1) pa_nil)) (nomark _)) (pw_and1 (pt_cmpR op_eq (pv 3) (pe_ix ix_tup (pv 1) (pv 2) (by exact fun _ _ => rfl)) (nomark _))))) (pss_one (ps_set (i := 2) sc_has_scattered.nd (by rfl) (by exact .inl rfl) (pe_op op_add (pv 2) pe_int))) pss_nil)))
      (pss_one (ps_ret (pe_cmpR op_eq (pv 2) (pe_callB (r := rLn K) call_len_seq (by rfl) G.m_len PySem.boot_len (pa_cons (pv 1) pa_nil)) (nomark _)))))))
abbrev N_superword_house : List Str := ["cells", "words", "times", "rows", "pairs", "at", "word", "i", "cell", "number", "changes", "house", "one", "standing", "start", "goal"]
theorem sc_superword_house : FnScope N_superword_house ["cells", "words"] (defScope s_superword_house) := ⟨rfl, rfl, rfl, by decide +kernel, rfl, by decide +kernel, by decide +kernel⟩
def t_superword_house (P : Program) (w : World) (K : PySem.W.Frag) (sp_Houseinit : Sp) (sp_is_sequence : Sp) (sp_is_number : Sp) : TS := (tSeq (tIfS (tNot (tB (tCall sp_is_sequence [] E0 (tCons (tVar 1) tNil)))) tNever tNext)
  (tSeq (tAsg (tTup (tCons (tOp rRep (tLst (tCons (tC (.int 0)) tNil)) (tVar 0)) (tCons (tLst (tCons (tOp (rRepT K) (tTup (tCons (tC (.int 0)) tNil)) (tVar 0)) tNil)) (tCons (tLst tNil) tNil)))) (gTup K 3 (gCons (gName 2) (gCons (gName 3) (gCons (gName 4) gNil)))))
  (tSeq (tFor (iEnK K (tCons (tVar 1) tNil)) (gTup K 2 (gCons (gName 5) (gCons (gName 6) gNil))) (tSeq (tIfS (tOr (tNot (tB (tCall sp_is_sequence [] E0 (tCons (tVar 6) tNil)))) (tOr (tNot (tTru K (tVar 6))) (tNot (tB (tCB (rAll K) (tCons (tLc (iSeq K (tVar 6)) (gName 12) tYes (tAndV (tCall sp_is_number [] E0 (tCons (tVar 12) tNil)) (tOp (rI0 fun i j => .bl (decide (i < j))) (tVar 12) (tVar 0))) [12]) tNil)))))) tNever tNext)
  (tSeq (tIfS (tB (tCB (rAny K) (tCons (tLc (iRng1 (tCons (tOp (rI0 fun i j => .int (i - j)) (tCB (rLn K) (tCons (tVar 6) tNil)) (tC (.int 1))) tNil)) (gName 7) tYes (tOp rEq (tOp (rIxL K) (tVar 6) (tVar 7)) (tOp (rIxL K) (tVar 6) (tOp (rI0 fun i j => .int (i + j)) (tVar 7) (tC (.int 1))))) [7]) tNil))) tNever tNext)
  (tFor (iEnK K (tCons (tVar 6) tNil)) (gTup K 2 (gCons (gName 7) (gCons (gName 8) gNil))) (tSeq (tAsg (tOp (rI0 fun i j => .int (i + j)) (tOp (rIxL K) (tVar 2) (tVar 8)) (tC (.int 1))) (gSub (tVar 2) (tVar 8) rSetL))
  (tSeq (tIfS (tTest (tOp (rI0 fun i j => .bl (decide (j < i))) (tOp (rIxL K) (tVar 2) (tVar 8)) (tC (.int 5)))) tNever tNext)
  (tSeq (tDrop (tBM K "list" rAppend (tVar 3) (tCons (tThen (tLc (iRng1 (tCons (tVar 0) tNil)) (gName 12) tYes (tIf (tTest (tOp rEq (tVar 12) (tVar 8))) (tOp (rIxL K) (tVar 2) (tVar 8)) (tC (.int 0))) [12]) (kTup K)) tNil)))
  (tIfS (tTest (tOp (rI0 fun i j => .bl (decide (j < i))) (tVar 7) (tC (.int 0)))) (tDrop (tBM K "list" rAppend (tVar 4) (tCons (tTup (tCons (tOp (rIxL K) (tVar 3) (tUn (rU fun i => .int (-i)) (tC (.int 2)))) (tCons (tOp (rIxL K) (tVar 3) (tUn (rU fun i => .int (-i)) (tC (.int 1)))) tNil))) tNil))) tNext))))))))
  (tSeq (tAsg (tCo (fun _ => .dT []) (iEnK K (tCons (tCB (rSortTA K) (tCons (tVar 3) tNil)) tNil)) (gTup K 2 (gCons (gName 5) (gCons (gName 13) gNil))) tYes (addT (tVar 13) (tVar 5)) [5, 13]) (gName 9))
  (tSeq (tAsg (tLc (iSeq K (tVar 4)) (gTup K 2 (gCons (gName 14) (gCons (gName 15) gNil))) tYes (tTup (tCons (tDGet (tVar 9) (tVar 14)) (tCons (tDGet (tVar 9) (tVar 15)) tNil))) [14, 15]) (gName 10))
  (tSeq (tAsg (tMake (cH K) sp_Houseinit [] E0 (tCons (tLc (iSeq K (tVar 2)) (gName 12) tYes (tOp (rI0 fun i j => .int (i + j)) (tVar 12) (tC (.int 1))) [12]) (tCons (tVar 3) (tCons (tVar 10) tNil)))) (gName 11))
  (tRet (tTup (tCons (tVar 11) (tCons (tOp (rCatA K) (tTup (tCons (tC (.int 0)) tNil)) (tOp (rRepT K) (tTup (tCons (tC (.int 1)) tNil)) (tOp (rI0 fun i j => .int (i - j)) (tCB (rLn K) (tCons (tVar 3) tNil)) (tC (.int 1))))) tNil))))))))))
theorem dv_superword_house {P : Program} {w : World} {K : PySem.W.Frag} {mg : Str → Option Value} {base : Heap} (G : Gs K mg) {sp_Houseinit : Sp} {sp_is_sequence : Sp} {sp_is_number : Sp} (C_Houseinit : C8.Mak P w K mg base 5 "House" (cH K) sp_Houseinit []) (C_is_sequence : C8.Cal P w K mg base 1 "is_sequence" sp_is_sequence []) (C_is_number : C8.Cal P w K mg base 2 "is_number" sp_is_number []) {cdv : Value} {A : Around} {outer : List Env} {s : Shared} {H : Hp} {E : XK} {f : Addr} (hr : Room 6 (A.deeper (envOfC "superword_house" (defScope s_superword_house) s.heap.objs.size f cdv))) :
    PSs (cxOf CX0 P w K mg base N_superword_house "superword_house" (defScope s_superword_house) f cdv A outer s H E).nox (defBody s_superword_house) (t_superword_house P w K sp_Houseinit sp_is_sequence sp_is_number) := by
  have hu := hu_of hr
  have hu3 := hu2' hr
  have hu4 := hu64 hr
  have hu5 := hu65 hr
  exact (pss_cons (ps_if (pt_not (pt_val (C8.pe_c C_is_sequence hr (by decide) (by rfl) (pa_cons (pv 1) pa_nil)))) pss_never pss_nil)
      (pss_cons (ps_asg (pe_tup (pa_cons (pe_op op_rep (pe_lst (pa_cons pe_int pa_nil)) (pv 0)) (pa_cons (pe_lst (pa_cons (pe_op op_repT (pe_tup (pa_cons pe_int pa_nil)) (pv 0)) pa_nil)) (pa_cons (pe_lst pa_nil) pa_nil)))) (pg_tup (by rfl) (pgs_cons (pg_name (i := 2) sc_superword_house.nd (by rfl) (by exact .inr rfl) (hf := by exact .inl rfl)) (pgs_cons (pg_name (i := 3) sc_superword_house.nd (by rfl) (by exact .inl rfl) (hf := by exact .inl rfl)) (pgs_cons (pg_name (i := 4) sc_superword_house.nd (by rfl) (by exact .inl rfl) (hf := by exact .inl rfl)) pgs_nil)))))
      (pss_cons (ps_for PassesOwn.never (by rfl) (pi_enumK (by rfl) G.m_enumerate (pa_cons (pv 1) pa_nil)) (pg_tup (by rfl) (pgs_cons (pg_name (i := 5) sc_superword_house.nd (by rfl) (by exact .inl rfl) (hf := by exact .inl rfl)) (pgs_cons (pg_name (i := 6) sc_superword_house.nd (by rfl) (by exact .inr rfl) (hf := by exact .inl rfl)) pgs_nil))) (pss_cons (ps_if (PW.pt (pw_or (pt_not (pt_val (C8.pe_c C_is_sequence hr (by decide) (by rfl) (pa_cons (pv 6) pa_nil)))) (pw_or (pt_not (pt_truth (pv 6) (by intro _; rfl))) (pw_or1 (pt_not (pt_val (pe_callB (cr_all (by rfl)) (by rfl) G.m_all PyProof.Rows.boot_all (pa_cons (pe_lc (own := [("one", 12)]) (g := (gName 12)) (tt := tYes) (te := (tAndV (tCall sp_is_number [] E0 (tCons (tVar 12) tNil)) (tOp (rI0 fun i j => .bl (decide (i < j))) (tVar 12) (tVar 0)))) (by rfl) sc_superword_house.nd (pi_seq (pv 6)) (blkOk_by (N := N_superword_house) (sc := defScope s_superword_house) (by decide +kernel)) (fun _ _ _ _ _ => (pg_name (i := 12) sc_superword_house.nd (by rfl) (by exact .inl rfl) (hf := by exact .inr rfl))) (fun _ _ _ _ _ => pts_nil) (fun _ _ _ _ _ => (pe_and (C8.pe_c C_is_number hr (by decide) (by rfl) (pa_cons (pv 12) pa_nil)) (pe_one (pe_cmpR op_lt (pv 12) (pv 0) (nomark _)))))) pa_nil)))))))) pss_never pss_nil)
      (pss_cons (ps_if (pt_val (pe_callB (cr_any (by rfl)) (by rfl) G.m_any PyProof.Rows.boot_any (pa_cons (pe_lc (own := [("i", 7)]) (g := (gName 7)) (tt := tYes) (te := (tOp rEq (tOp (rIxL K) (tVar 6) (tVar 7)) (tOp (rIxL K) (tVar 6) (tOp (rI0 fun i j => .int (i + j)) (tVar 7) (tC (.int 1)))))) (by rfl) sc_superword_house.nd (pi_range1 (by rfl) G.m_range (pa_cons (pe_op op_sub (pe_callB (r := rLn K) call_len_seq (by rfl) G.m_len PySem.boot_len (pa_cons (pv 6) pa_nil)) pe_int) pa_nil)) (blkOk_by (N := N_superword_house) (sc := defScope s_superword_house) (by decide +kernel)) (fun _ _ _ _ _ => (pg_name (i := 7) sc_superword_house.nd (by rfl) (by exact .inl rfl) (hf := by exact .inr rfl))) (fun _ _ _ _ _ => pts_nil) (fun _ _ _ _ _ => (pe_cmpR op_eq (pe_ix ix_list (pv 6) (pv 7) (by exact fun _ _ => rfl)) (pe_ix ix_list (pv 6) (pe_op op_add (pv 7) pe_int) (by exact fun _ _ => rfl)) (nomark _)))) pa_nil))) pss_never pss_nil)
      (pss_one (ps_for PassesOwn.never (by rfl) (pi_enumK (by rfl) G.m_enumerate (pa_cons (pv 6) pa_nil)) (pg_tup (by rfl) (pgs_cons (pg_name (i := 7) sc_superword_house.nd (by rfl) (by exact .inl rfl) (hf := by exact .inl rfl)) (pgs_cons (pg_name (i := 8) sc_superword_house.nd (by rfl) (by exact .inr rfl) (hf := by exact .inl rfl)) pgs_nil))) (pss_cons (ps_asg (pe_op op_add (pe_ix ix_list (pv 2) (pv 8) (by exact fun _ _ => rfl)) pe_int) (pg_sub (pv 2) (pv 8) set_list))
      (pss_cons (ps_if (pt_cmpR op_gt (pe_ix ix_list (pv 2) (pv 8) (by exact fun _ _ => rfl)) (pe_glob (v := .int 5) (by rfl) G.c_MOST_TIMES.choose_spec (by exact ⟨_, rfl⟩)) (nomark _)) pss_never pss_nil)
      (pss_cons (ps_expr (pe_bm PySem.F.plainAttrs_list PySem.F.slot_list_append PySem.F.type_list_append mt_append (pv 3) (pa_cons (pe_tupleOf (by rfl) G.m_tuple (pe_lc (own := [("one", 12)]) (g := (gName 12)) (tt := tYes) (te := (tIf (tTest (tOp rEq (tVar 12) (tVar 8))) (tOp (rIxL K) (tVar 2) (tVar 8)) (tC (.int 0)))) (by rfl) sc_superword_house.nd (pi_range1 (by rfl) G.m_range (pa_cons (pv 0) pa_nil)) (blkOk_by (N := N_superword_house) (sc := defScope s_superword_house) (by decide +kernel)) (fun _ _ _ _ _ => (pg_name (i := 12) sc_superword_house.nd (by rfl) (by exact .inl rfl) (hf := by exact .inr rfl))) (fun _ _ _ _ _ => pts_nil) (fun _ _ _ _ _ => (pe_ifExp (pt_cmpR op_eq (pv 12) (pv 8) (nomark _)) (pe_ix ix_list (pv 2) (pv 8) (by exact fun _ _ => rfl)) pe_int)))) pa_nil)))
      (pss_one (ps_if (pt_cmpR op_gt (pv 7) pe_int (nomark _)) (pss_one (ps_expr (pe_bm PySem.F.plainAttrs_list PySem.F.slot_list_append PySem.F.type_list_append mt_append (pv 4) (pa_cons (pe_tup (pa_cons (pe_ix ix_list (pv 3) (pe_un un_neg pe_int) (by exact fun _ _ => rfl)) (pa_cons (pe_ix ix_list (pv 3) (pe_un un_neg pe_int) (by exact fun _ _ => rfl)) pa_nil))) pa_nil)))) pss_nil))))))))))
      (pss_cons (ps_set (i := 9) sc_superword_house.nd (by rfl) (by exact .inr rfl) (pe_dcT (own := [("at", 5), ("standing", 13)]) (g := (gTup K 2 (gCons (gName 5) (gCons (gName 13) gNil)))) (tt := tYes) (tk := (tVar 13)) (tv := (tVar 5)) hu (by rfl) sc_superword_house.nd (pi_enumK (by rfl) G.m_enumerate (pa_cons (pe_callB cr_sortTA (by rfl) G.m_sorted PyProof.Rows.boot_sorted (pa_cons (pv 3) pa_nil)) pa_nil)) (blkOk_by (N := N_superword_house) (sc := defScope s_superword_house) (by decide +kernel)) (fun _ _ _ _ _ => (pg_tup (by rfl) (pgs_cons (pg_name (i := 5) sc_superword_house.nd (by rfl) (by exact .inl rfl) (hf := by exact .inr rfl)) (pgs_cons (pg_name (i := 13) sc_superword_house.nd (by rfl) (by exact .inl rfl) (hf := by exact .inr rfl)) pgs_nil)))) (fun _ _ _ _ _ => pts_nil) (fun _ _ _ _ _ => (pv 13)) (fun _ _ _ _ _ => (pv 5))))
      (pss_cons (ps_setLc (own := [("start", 14), ("goal", 15)]) (i := 10) (g := (gTup K 2 (gCons (gName 14) (gCons (gName 15) gNil)))) (tt := tYes) (te := (tTup (tCons (tDGet (tVar 9) (tVar 14)) (tCons (tDGet (tVar 9) (tVar 15)) tNil)))) (by rfl) sc_superword_house.nd (by rfl) (by rfl) (sw_true (by rfl) (by rfl) (by rfl) (by decide +kernel)) (pi_seq (pv 4)) (blkOk_by (N := N_superword_house) (sc := defScope s_superword_house) (by decide +kernel)) (fun _ _ _ _ _ => (pg_tup (by rfl) (pgs_cons (pg_name (i := 14) sc_superword_house.nd (by rfl) (by exact .inl rfl) (hf := by exact .inr rfl)) (pgs_cons (pg_name (i := 15) sc_superword_house.nd (by rfl) (by exact .inl rfl) (hf := by exact .inr rfl)) pgs_nil)))) (fun _ _ _ _ _ => pts_nil) (fun _ _ _ _ _ => (pe_tup (pa_cons (pe_dget hu (pv 9) (pv 14) (by exact fun _ _ => rfl)) (pa_cons (pe_dget hu (pv 9) (pv 15) (by exact fun _ _ => rfl)) pa_nil)))))
      (pss_cons (ps_set (i := 11) sc_superword_house.nd (by rfl) (by exact .inl rfl) (C8.pe_mk C_Houseinit hr (by decide) (by rfl) (pa_cons (pe_lc (own := [("one", 12)]) (g := (gName 12)) (tt := tYes) (te := (tOp (rI0 fun i j => .int (i + j)) (tVar 12) (tC (.int 1)))) (by rfl) sc_superword_house.nd (pi_seq (pv 2)) (blkOk_by (N := N_superword_house) (sc := defScope s_superword_house) (by decide +kernel)) (fun _ _ _ _ _ => (pg_name (i := 12) sc_superword_house.nd (by rfl) (by exact .inl rfl) (hf := by exact .inr rfl))) (fun _ _ _ _ _ => pts_nil) (fun _ _ _ _ _ => (pe_op op_add (pv 12) pe_int))) (pa_cons (pv 3) (pa_cons (pv 10) pa_nil)))))
      (pss_one (ps_ret (pe_tup (pa_cons (pv 11) (pa_cons (pe_op op_catA (pe_tup (pa_cons pe_int pa_nil)) (pe_op op_repT (pe_tup (pa_cons pe_int pa_nil)) (pe_op op_sub (pe_callB (r := rLn K) call_len_seq (by rfl) G.m_len PySem.boot_len (pa_cons (pv 3) pa_nil)) pe_int))) pa_nil)))))))))))
abbrev N_need_length : List Str := ["value"]
theorem sc_need_length : FnScope N_need_length ["value"] (defScope s_need_length) := ⟨rfl, rfl, rfl, by decide +kernel, rfl, by decide +kernel, by decide +kernel⟩
def t_need_length (P : Program) (w : World) (K : PySem.W.Frag) (sp_is_number : Sp) : TS := (tSeq (tIfS (tNot (tB (tCall sp_is_number [] E0 (tCons (tVar 0) tNil)))) tNever tNext)
  (tRet (tVar 0)))
theorem dv_need_length {P : Program} {w : World} {K : PySem.W.Frag} {mg : Str → Option Value} {base : Heap} (G : Gs K mg) {sp_is_number : Sp} (C_is_number : C8.Cal P w K mg base 2 "is_number" sp_is_number []) {cdv : Value} {A : Around} {outer : List Env} {s : Shared} {H : Hp} {E : XK} {f : Addr} (hr : Room 2 (A.deeper (envOfC "need_length" (defScope s_need_length) s.heap.objs.size f cdv))) :
    PSs (cxOf CX0 P w K mg base N_need_length "need_length" (defScope s_need_length) f cdv A outer s H E).nox (defBody s_need_length) (t_need_length P w K sp_is_number) := by
  have hu := hu_of hr
  have hu3 := hu2' hr
  have hu4 := hu64 hr
  have hu5 := hu65 hr
  exact (pss_cons (ps_if (pt_not (pt_val (C8.pe_c C_is_number hr (by decide) (by rfl) (pa_cons (pv 0) pa_nil)))) pss_never pss_nil)
      (pss_one (ps_ret (pv 0))))
abbrev N_settled_tables : List Str := ["house", "others", "shown", "length", "met", "waiting", "follow", "lot", "left", "tables", "one"]
theorem sc_settled_tables : FnScope N_settled_tables ["house", "others", "shown", "length"] (defScope s_settled_tables) := ⟨rfl, rfl, rfl, by decide +kernel, rfl, by decide +kernel, by decide +kernel⟩
abbrev csc_settled_tables : Scope := { kind := ScopeKind.function, names := [(Str.ofString ".0", NameKind.local), (Str.ofString "lot", NameKind.local), (Str.ofString "sum", NameKind.globalImplicit), (Str.ofString "follow", NameKind.cell), (Str.ofString "tables", NameKind.cell)], isGenerator := false, isCoroutine := false }
def t_settled_tables (P : Program) (w : World) (K : PySem.W.Frag) (sp_left_lot : Sp) : TS := (tSeq (tAsg (tTup (tCons (tDOneT (tVar 1) (tC (.bl true))) (tCons (tLst (tCons (tVar 1) tNil)) (tCons tDNewT tNil)))) (gTup K 3 (gCons (gName 4) (gCons (gName 5) (gCons (gName 6) gNil)))))
  (tSeq (tWhile (tTru K (tVar 5)) (tSeq (tAsg (tBM0 K "list" rPop (tVar 5)) (gName 7))
  (tSeq (sDPut (tVar 6) (tVar 7) (tLc (iSeq K (tVar 2)) (gName 10) tYes (tCall sp_left_lot [] E0 (tCons (tVar 0) (tCons (tVar 1) (tCons (tVar 10) (tCons (tVar 7) tNil))))) [10]))
  (tFor (iSeq K (tDGet (tVar 6) (tVar 7))) (gName 8) (tIfS (tB (tDNotIn (tVar 8) (tVar 4))) (tSeq (sDPut (tVar 4) (tVar 8) (tC (.bl true)))
  (tDrop (tBM K "list" rAppend (tVar 5) (tCons (tVar 8) tNil)))) tNext)))))
  (tSeq (tLock (tAsg (tLst (tCons (tCo (fun _ => .dT []) (iKeys (tVar 4)) (gName 7) tYes (addT (tVar 7) (tIf (tTru K (tVar 7)) (tC (.int 0)) (tC (.int 1)))) [7]) tNil)) (gName 9)))
  (tSeq (tWhile (tTest (tOp (rI0 fun i j => .bl (decide (i ≤ j))) (tCB (rLn K) (tCons (tVar 9) tNil)) (tVar 3))) (tLock (tDrop (tBM K "list" rAppend (tVar 9) (tCons (tCo (fun _ => .dT []) (iKeys (tVar 4)) (gName 7) tYes (addT (tVar 7) (tCB (rSum K) (tCons (tLc (iSeq K (tDGet (tVar 6) (tVar 7))) (gName 8) tYes (tDGet (tOp (rIxL K) (tVar 9) (tUn (rU fun i => .int (-i)) (tC (.int 1)))) (tVar 8)) [8]) tNil))) [7]) tNil)))))
  (tRet (tTup (tCons (tVar 9) (tCons (tVar 6) tNil))))))))
theorem dv_settled_tables {P : Program} {w : World} {K : PySem.W.Frag} {mg : Str → Option Value} {base : Heap} (G : Gs K mg) {sp_left_lot : Sp} (C_left_lot : C8.Cal P w K mg base 2 "left_lot" sp_left_lot []) {cdv : Value} {A : Around} {outer : List Env} {s : Shared} {H : Hp} {E : XK} {f : Addr} (hr : Room 2 (A.deeper (envOfC "settled_tables" (defScope s_settled_tables) s.heap.objs.size f cdv))) :
    PSs (cxOf CX0 P w K mg base N_settled_tables "settled_tables" (defScope s_settled_tables) f cdv A outer s H E).nox (defBody s_settled_tables) (t_settled_tables P w K sp_left_lot) := by
  have hu := hu_of hr
  have hu3 := hu2' hr
  have hu4 := hu64 hr
  have hu5 := hu65 hr
  exact (pss_cons (ps_asg (pe_tup (pa_cons (pe_dOneT hu (pv 1) pe_bl) (pa_cons (pe_lst (pa_cons (pv 1) pa_nil)) (pa_cons pe_dnewT pa_nil)))) (pg_tup (by rfl) (pgs_cons (pg_name (i := 4) sc_settled_tables.nd (by rfl) (by exact .inl rfl) (hf := by exact .inl rfl)) (pgs_cons (pg_name (i := 5) sc_settled_tables.nd (by rfl) (by exact .inl rfl) (hf := by exact .inl rfl)) (pgs_cons (pg_name (i := 6) sc_settled_tables.nd (by rfl) (by exact .inr rfl) (hf := by exact .inl rfl)) pgs_nil)))))
      (pss_cons (ps_while PassesOwn.never (pt_truth (pv 5) (by intro _; rfl)) (pss_cons (ps_set (i := 7) sc_settled_tables.nd (by rfl) (by exact .inr rfl) (pe_bm0 PySem.F.plainAttrs_list PySem.F.slot_list_pop PySem.F.type_list_pop mt_pop (pv 5)))
      (pss_cons (ps_dput hu (pv 6) (pv 7) (pe_lc (own := [("one", 10)]) (g := (gName 10)) (tt := tYes) (te := (tCall sp_left_lot [] E0 (tCons (tVar 0) (tCons (tVar 1) (tCons (tVar 10) (tCons (tVar 7) tNil)))))) (by rfl) sc_settled_tables.nd (pi_seq (pv 2)) (blkOk_by (N := N_settled_tables) (sc := defScope s_settled_tables) (by decide +kernel)) (fun _ _ _ _ _ => (pg_name (i := 10) sc_settled_tables.nd (by rfl) (by exact .inl rfl) (hf := by exact .inr rfl))) (fun _ _ _ _ _ => pts_nil) (fun _ _ _ _ _ => (C8.pe_c C_left_lot hr (by decide) (by rfl) (pa_cons (pv 0) (pa_cons (pv 1) (pa_cons (pv 10) (pa_cons (pv 7) pa_nil))))))) (by rfl))
      (pss_one (ps_for PassesOwn.never (by rfl) (pi_seq (pe_dget hu (pv 6) (pv 7) (by exact fun _ _ => rfl))) (pg_name (i := 8) sc_settled_tables.nd (by rfl) (by exact .inl rfl) (hf := by exact .inl rfl)) (pss_one (ps_if (pt_cmp (pc_dnotin hu (pv 8) (pv 4))) (pss_cons (ps_dput hu (pv 4) (pv 8) pe_bl (by rfl))
      (pss_one (ps_expr (pe_bm PySem.F.plainAttrs_list PySem.F.slot_list_append PySem.F.type_list_append mt_append (pv 5) (pa_cons (pv 8) pa_nil))))) pss_nil)))))))
      (pss_cons (ps_lock (ps_set (i := 9) sc_settled_tables.nd (by rfl) (by exact .inr rfl) (pe_lst (pa_cons (pe_dcT (own := [("lot", 7)]) (g := (gName 7)) (tt := tYes) (tk := (tVar 7)) (tv := (tIf (tTru K (tVar 7)) (tC (.int 0)) (tC (.int 1)))) hu (by rfl) sc_settled_tables.nd (pi_keys (pv 4)) (blkOk_by (N := N_settled_tables) (sc := defScope s_settled_tables) (by decide +kernel)) (fun _ _ _ _ _ => (pg_name (i := 7) sc_settled_tables.nd (by rfl) (by exact .inl rfl) (hf := by exact .inr rfl))) (fun _ _ _ _ _ => pts_nil) (fun _ _ _ _ _ => (pv 7)) (fun _ _ _ _ _ => (pe_ifExp (pt_truth (pv 7) (by intro _; rfl)) pe_int pe_int))) pa_nil))))
      (pss_cons (ps_while PassesOwn.never (pt_cmpR op_le (pe_callB (r := rLn K) call_len_seq (by rfl) G.m_len PySem.boot_len (pa_cons (pv 9) pa_nil)) (pv 3) (nomark _)) (pss_one (ps_lock (ps_expr (pe_bm PySem.F.plainAttrs_list PySem.F.slot_list_append PySem.F.type_list_append mt_append (pv 9) (pa_cons (pe_dcT (own := [("lot", 7)]) (g := (gName 7)) (tt := tYes) (tk := (tVar 7)) (tv := (tCB (rSum K) (tCons (tLc (iSeq K (tDGet (tVar 6) (tVar 7))) (gName 8) tYes (tDGet (tOp (rIxL K) (tVar 9) (tUn (rU fun i => .int (-i)) (tC (.int 1)))) (tVar 8)) [8]) tNil))) hu (by rfl) sc_settled_tables.nd (pi_keys (pv 4)) (blkOk_by (N := N_settled_tables) (sc := defScope s_settled_tables) (by decide +kernel)) (fun _ _ _ _ _ => (pg_name (i := 7) sc_settled_tables.nd (by rfl) (by exact .inl rfl) (hf := by exact .inr rfl))) (fun _ _ _ _ _ => pts_nil) (fun _ _ _ _ _ => (pv 7)) (fun _ _ _ _ _ => (pe_callB (cr_sum (by rfl)) (by rfl) G.m_sum PyProof.Rows.boot_sum (pa_cons (pe_lc (own := [("left", 8)]) (g := (gName 8)) (tt := tYes) (te := (tDGet (tOp (rIxL K) (tVar 9) (tUn (rU fun i => .int (-i)) (tC (.int 1)))) (tVar 8))) (by rfl) sc_settled_tables.nd (pi_seq (pe_dget hu (pv 6) (pv 7) (by exact fun _ _ => rfl))) (blkOk_by (N := N_settled_tables) (sc := csc_settled_tables) (by decide +kernel)) (fun _ _ _ _ _ => (pg_name (i := 8) sc_settled_tables.nd (by rfl) (by exact .inl rfl) (hf := by exact .inr rfl))) (fun _ _ _ _ _ => pts_nil) (fun _ _ _ _ _ => (pe_dget hu (pe_ix ix_list (pv 9) (pe_un un_neg pe_int) (by exact fun _ _ => rfl)) (pv 8) (by exact fun _ _ => rfl)))) pa_nil)))) pa_nil))))))
      (pss_one (ps_ret (pe_tup (pa_cons (pv 9) (pa_cons (pv 6) pa_nil)))))))))
abbrev N_count_words : List Str := ["house", "view", "question", "answer", "row", "length", "others", "shown"]
theorem sc_count_words : FnScope N_count_words ["house", "view", "question", "answer", "row", "length"] (defScope s_count_words) := ⟨rfl, rfl, rfl, by decide +kernel, rfl, by decide +kernel, by decide +kernel⟩
def t_count_words (P : Program) (w : World) (K : PySem.W.Frag) (sp_need_sight : Sp) (sp_need_length : Sp) (sp_settled_tables : Sp) : TS := (tSeq (tAsg (tCall sp_need_sight [] E0 (tCons (tVar 0) (tCons (tVar 1) (tCons (tVar 2) (tCons (tVar 3) (tCons (tVar 4) tNil)))))) (gTup K 2 (gCons (gName 6) (gCons (gName 7) gNil))))
  (tSeq (tDrop (tCall sp_need_length [] E0 (tCons (tVar 5) tNil)))
  (tRet (tDGet (tOp (rIxL K) (tOp (rIxT K) (tCall sp_settled_tables [] E0 (tCons (tVar 0) (tCons (tVar 6) (tCons (tVar 7) (tCons (tVar 5) tNil))))) (tC (.int 0))) (tVar 5)) (tVar 6)))))
theorem dv_count_words {P : Program} {w : World} {K : PySem.W.Frag} {mg : Str → Option Value} {base : Heap} (G : Gs K mg) {sp_need_sight : Sp} {sp_need_length : Sp} {sp_settled_tables : Sp} (C_need_sight : C8.Cal P w K mg base 5 "need_sight" sp_need_sight []) (C_need_length : C8.Cal P w K mg base 3 "need_length" sp_need_length []) (C_settled_tables : C8.Cal P w K mg base 3 "settled_tables" sp_settled_tables []) {cdv : Value} {A : Around} {outer : List Env} {s : Shared} {H : Hp} {E : XK} {f : Addr} (hr : Room 5 (A.deeper (envOfC "count_words" (defScope s_count_words) s.heap.objs.size f cdv))) :
    PSs (cxOf CX0 P w K mg base N_count_words "count_words" (defScope s_count_words) f cdv A outer s H E).nox (defBody s_count_words) (t_count_words P w K sp_need_sight sp_need_length sp_settled_tables) := by
  have hu := hu_of hr
  have hu3 := hu2' hr
  have hu4 := hu64 hr
  have hu5 := hu65 hr
  exact (pss_cons (ps_asg (C8.pe_c C_need_sight hr (by decide) (by rfl) (pa_cons (pv 0) (pa_cons (pv 1) (pa_cons (pv 2) (pa_cons (pv 3) (pa_cons (pv 4) pa_nil)))))) (pg_tup (by rfl) (pgs_cons (pg_name (i := 6) sc_count_words.nd (by rfl) (by exact .inl rfl) (hf := by exact .inl rfl)) (pgs_cons (pg_name (i := 7) sc_count_words.nd (by rfl) (by exact .inl rfl) (hf := by exact .inl rfl)) pgs_nil))))
      (pss_cons (ps_expr (C8.pe_c C_need_length hr (by decide) (by rfl) (pa_cons (pv 5) pa_nil)))
      (pss_one (ps_ret (pe_dget hu (pe_ix ix_list (pe_ix ix_tup (C8.pe_c C_settled_tables hr (by decide) (by rfl) (pa_cons (pv 0) (pa_cons (pv 6) (pa_cons (pv 7) (pa_cons (pv 5) pa_nil))))) pe_int (by exact fun _ _ => rfl)) (pv 5) (by exact fun _ _ => rfl)) (pv 6) (by exact fun _ _ => rfl))))))
abbrev N_law_dealt : List Str := ["_law_script", "_law_base", "_law_cells", "_law_blend", "_law_cell"]
theorem sc_law_dealt : FnScope N_law_dealt ["_law_script", "_law_base"] (defScope s_law_dealt) := ⟨rfl, rfl, rfl, by decide +kernel, rfl, by decide +kernel, by decide +kernel⟩
def t_law_dealt (P : Program) (w : World) (K : PySem.W.Frag) : TS := (tSeq (tAsg (tLc (iSeq K (tSl (rSlL K) (tVar 0) tNoPart (tPart (tC (.int 48))))) (gName 4) tYes (tCB rAbs (tCons (tCB rInt1 (tCons (tVar 4) tNil)) tNil)) [4]) (gName 2))
  (tSeq (tAsg (tOp (rI0 fun i j => .int (i + j)) (tC (.int 35742031)) (tOp (rI CMul fun i j => .int (i * j)) (tC (.int 157)) (tVar 1))) (gName 3))
  (tSeq (tFor (iSeq K (tVar 2)) (gName 4) (tAsg (tOp (rI (fun _ j => 0 < j) fun i j => .int (i % j)) (tCB rInt1 (tCons (tOp (rI0 fun i j => .int (i + j)) (tOp (rI0 fun i j => .int (i + j)) (tOp (rI CMul fun i j => .int (i * j)) (tVar 3) (tC (.int 48271))) (tOp (rI (fun _ j => 0 < j) fun i j => .int (i % j)) (tVar 4) (tC (.int 2147483629)))) (tC (.int 83))) tNil)) (tC (.int 2147483647))) (gName 3)))
  (tRet (tLst (tCons (tRevL K (tLc (iSeq K (tVar 2)) (gName 4) (tTest (tOp (rI0 fun i j => .bl (decide (j ≤ i))) (tVar 4) (tOp (rI CPow fun i j => .int (i ^ j.toNat)) (tC (.int 10)) (tC (.int 18))))) (tVar 4) [4])) (tCons (tVar 3) tNil)))))))
theorem dv_law_dealt {P : Program} {w : World} {K : PySem.W.Frag} {mg : Str → Option Value} {base : Heap} (G : Gs K mg) {cdv : Value} {A : Around} {outer : List Env} {s : Shared} {H : Hp} {E : XK} {f : Addr} (hr : Room 0 (A.deeper (envOfC "_law_dealt" (defScope s_law_dealt) s.heap.objs.size f cdv))) :
    PSs (cxOf CX0 P w K mg base N_law_dealt "_law_dealt" (defScope s_law_dealt) f cdv A outer s H E).nox (defBody s_law_dealt) (t_law_dealt P w K ) := by
  have hu := hu_of hr
  have hu3 := hu2' hr
  have hu4 := hu64 hr
  have hu5 := hu65 hr
  exact (pss_cons (ps_setLc (own := [("_law_cell", 4)]) (i := 2) (g := (gName 4)) (tt := tYes) (te := (tCB rAbs (tCons (tCB rInt1 (tCons (tVar 4) tNil)) tNil))) (by rfl) sc_law_dealt.nd (by rfl) (by rfl) (sw_true (by rfl) (by rfl) (by rfl) (by decide +kernel)) (pi_seq (pe_slice sl_list (pv 0) po_none (po_some pe_int))) (blkOk_by (N := N_law_dealt) (sc := defScope s_law_dealt) (by decide +kernel)) (fun _ _ _ _ _ => (pg_name (i := 4) sc_law_dealt.nd (by rfl) (by exact .inl rfl) (hf := by exact .inr rfl))) (fun _ _ _ _ _ => pts_nil) (fun _ _ _ _ _ => (pe_callB call_abs (by rfl) G.m_abs PyProof.Rows.boot_abs (pa_cons (pe_callTy call_int1 (by rfl) G.m_int PyProof.Rows.boot_int (pa_cons (pv 4) pa_nil)) pa_nil))))
      (pss_cons (ps_set (i := 3) sc_law_dealt.nd (by rfl) (by exact .inl rfl) (pe_op op_add pe_int (pe_op op_mul pe_int (pv 1))))
      (pss_cons (ps_for PassesOwn.never (by rfl) (pi_seq (pv 2)) (pg_name (i := 4) sc_law_dealt.nd (by rfl) (by exact .inl rfl) (hf := by exact .inl rfl)) (pss_one (ps_set (i := 3) sc_law_dealt.nd (by rfl) (by exact .inl rfl) (pe_op op_mod (pe_callTy call_int1 (by rfl) G.m_int PyProof.Rows.boot_int (pa_cons (pe_op op_add (pe_op op_add (pe_op op_mul (pv 3) pe_int) (pe_op op_mod (pv 4) pe_int)) pe_int) pa_nil)) pe_int))))
      (pss_one (ps_ret (pe_lst (pa_cons (pe_revL (pe_lc (own := [("_law_cell", 4)]) (g := (gName 4)) (tt := (tTest (tOp (rI0 fun i j => .bl (decide (j ≤ i))) (tVar 4) (tOp (rI CPow fun i j => .int (i ^ j.toNat)) (tC (.int 10)) (tC (.int 18)))))) (te := (tVar 4)) (by rfl) sc_law_dealt.nd (pi_seq (pv 2)) (blkOk_by (N := N_law_dealt) (sc := defScope s_law_dealt) (by decide +kernel)) (fun _ _ _ _ _ => (pg_name (i := 4) sc_law_dealt.nd (by rfl) (by exact .inl rfl) (hf := by exact .inr rfl))) (fun _ _ _ _ _ => (pts_one (pt_cmpR op_ge (pv 4) (pe_op op_pow pe_int pe_int) (nomark _)))) (fun _ _ _ _ _ => (pv 4)))) (pa_cons (pv 3) pa_nil))))))))
abbrev N_law_any : List Str := ["_law_deal", "_law_bound", "_law_rest"]
theorem sc_law_any : FnScope N_law_any ["_law_deal", "_law_bound"] (defScope s_law_any) := ⟨rfl, rfl, rfl, by decide +kernel, rfl, by decide +kernel, by decide +kernel⟩
def t_law_any (P : Program) (w : World) (K : PySem.W.Frag) : TS := (tSeq (tWhile (tAnd (tTest (tOp (rNeD K) (tOp (rIxL K) (tVar 0) (tC (.int 0))) (tLst tNil))) (tTest (tOp rEq (tOp (rIxL K) (tOp (rIxL K) (tVar 0) (tC (.int 0))) (tUn (rU fun i => .int (-i)) (tC (.int 1)))) (tC (.int 0))))) (tDrop (tBM0 K "list" rPop (tOp (rIxL K) (tVar 0) (tC (.int 0))))))
  (tSeq (tIfS (tTest (tOp (rNeD K) (tOp (rIxL K) (tVar 0) (tC (.int 0))) (tLst tNil))) (tSeq (tAsg (tCB rInt1 (tCons (tBM0 K "list" rPop (tOp (rIxL K) (tVar 0) (tC (.int 0)))) tNil)) (gName 2))
  (tSeq (tDrop (tBM K "list" rAppend (tOp (rIxL K) (tVar 0) (tC (.int 0))) (tCons (tOp (rI CDivN fun i j => .int (i.fdiv j)) (tVar 2) (tVar 1)) tNil)))
  (tRet (tOp (rI (fun _ j => 0 < j) fun i j => .int (i % j)) (tVar 2) (tVar 1))))) tNext)
  (tSeq (tAsg (tOp (rI (fun _ j => 0 < j) fun i j => .int (i % j)) (tCB rInt1 (tCons (tOp (rI0 fun i j => .int (i + j)) (tOp (rI CMul fun i j => .int (i * j)) (tOp (rIxL K) (tVar 0) (tC (.int 1))) (tC (.int 48271))) (tC (.int 97))) tNil)) (tC (.int 2147483647))) (gSub (tVar 0) (tC (.int 1)) rSetL))
  (tRet (tOp (rI (fun _ j => 0 < j) fun i j => .int (i % j)) (tCB rInt1 (tCons (tOp (rI CDivN fun i j => .int (i.fdiv j)) (tOp (rIxL K) (tVar 0) (tC (.int 1))) (tC (.int 64))) tNil)) (tVar 1))))))
theorem dv_law_any {P : Program} {w : World} {K : PySem.W.Frag} {mg : Str → Option Value} {base : Heap} (G : Gs K mg) {cdv : Value} {A : Around} {outer : List Env} {s : Shared} {H : Hp} {E : XK} {f : Addr} (hr : Room 0 (A.deeper (envOfC "_law_any" (defScope s_law_any) s.heap.objs.size f cdv))) :
    PSs (cxOf CX0 P w K mg base N_law_any "_law_any" (defScope s_law_any) f cdv A outer s H E).nox (defBody s_law_any) (t_law_any P w K ) := by
  have hu := hu_of hr
  have hu3 := hu2' hr
  have hu4 := hu64 hr
  have hu5 := hu65 hr
  exact (pss_cons (ps_while PassesOwn.never (PW.pt (pw_and (pt_cmpR (op_neD hu4) (pe_ix ix_list (pv 0) pe_int (by exact fun _ _ => rfl)) (pe_lst pa_nil) (nomark _)) (pw_and1 (pt_cmpR op_eq (pe_ix ix_list (pe_ix ix_list (pv 0) pe_int (by exact fun _ _ => rfl)) (pe_un un_neg pe_int) (by exact fun _ _ => rfl)) pe_int (nomark _))))) (pss_one (ps_expr (pe_bm0 PySem.F.plainAttrs_list PySem.F.slot_list_pop PySem.F.type_list_pop mt_pop (pe_ix ix_list (pv 0) pe_int (by exact fun _ _ => rfl))))))
      (pss_cons (ps_if (pt_cmpR (op_neD hu4) (pe_ix ix_list (pv 0) pe_int (by exact fun _ _ => rfl)) (pe_lst pa_nil) (nomark _)) (pss_cons (ps_set (i := 2) sc_law_any.nd (by rfl) (by exact .inl rfl) (pe_callTy call_int1 (by rfl) G.m_int PyProof.Rows.boot_int (pa_cons (pe_bm0 PySem.F.plainAttrs_list PySem.F.slot_list_pop PySem.F.type_list_pop mt_pop (pe_ix ix_list (pv 0) pe_int (by exact fun _ _ => rfl))) pa_nil)))
      (pss_cons (ps_expr (pe_bm PySem.F.plainAttrs_list PySem.F.slot_list_append PySem.F.type_list_append mt_append (pe_ix ix_list (pv 0) pe_int (by exact fun _ _ => rfl)) (pa_cons (pe_op op_fdivN (pv 2) (pv 1)) pa_nil)))
      (pss_one (ps_ret (pe_op op_mod (pv 2) (pv 1)))))) pss_nil)
      (pss_cons (ps_asg (pe_op op_mod (pe_callTy call_int1 (by rfl) G.m_int PyProof.Rows.boot_int (pa_cons (pe_op op_add (pe_op op_mul (pe_ix ix_list (pv 0) pe_int (by exact fun _ _ => rfl)) pe_int) pe_int) pa_nil)) pe_int) (pg_sub (pv 0) pe_int set_list))
      (pss_one (ps_ret (pe_op op_mod (pe_callTy call_int1 (by rfl) G.m_int PyProof.Rows.boot_int (pa_cons (pe_op op_fdivN (pe_ix ix_list (pv 0) pe_int (by exact fun _ _ => rfl)) pe_int) pa_nil)) (pv 1)))))))
abbrev N_law_of : List Str := ["_law_deal", "_law_some"]
theorem sc_law_of : FnScope N_law_of ["_law_deal", "_law_some"] (defScope s_law_of) := ⟨rfl, rfl, rfl, by decide +kernel, rfl, by decide +kernel, by decide +kernel⟩
def t_law_of (P : Program) (w : World) (K : PySem.W.Frag) (sp_law_any : Sp) : TS := (tRet (tOp (rIxL K) (tVar 1) (tCall sp_law_any [] E0 (tCons (tVar 0) (tCons (tCB (rLn K) (tCons (tVar 1) tNil)) tNil)))))
theorem dv_law_of {P : Program} {w : World} {K : PySem.W.Frag} {mg : Str → Option Value} {base : Heap} (G : Gs K mg) {sp_law_any : Sp} (C_law_any : C8.Cal P w K mg base 1 "_law_any" sp_law_any []) {cdv : Value} {A : Around} {outer : List Env} {s : Shared} {H : Hp} {E : XK} {f : Addr} (hr : Room 1 (A.deeper (envOfC "_law_of" (defScope s_law_of) s.heap.objs.size f cdv))) :
    PSs (cxOf CX0 P w K mg base N_law_of "_law_of" (defScope s_law_of) f cdv A outer s H E).nox (defBody s_law_of) (t_law_of P w K sp_law_any) := by
  have hu := hu_of hr
  have hu3 := hu2' hr
  have hu4 := hu64 hr
  have hu5 := hu65 hr
  exact (pss_one (ps_ret (pe_ix ix_list (pv 1) (C8.pe_c C_law_any hr (by decide) (by rfl) (pa_cons (pv 0) (pa_cons (pe_callB (r := rLn K) call_len_seq (by rfl) G.m_len PySem.boot_len (pa_cons (pv 1) pa_nil)) pa_nil))) (by exact fun _ _ => rfl))))
abbrev N_law_word : List Str := ["_law_deal", "_law_many", "_law_most_here", "_law_turn"]
theorem sc_law_word : FnScope N_law_word ["_law_deal", "_law_many", "_law_most_here"] (defScope s_law_word) := ⟨rfl, rfl, rfl, by decide +kernel, rfl, by decide +kernel, by decide +kernel⟩
def t_law_word (P : Program) (w : World) (K : PySem.W.Frag) (sp_law_any : Sp) : TS := (tRet (tLc (iRng1 (tCons (tCall sp_law_any [] E0 (tCons (tVar 0) (tCons (tOp (rI0 fun i j => .int (i + j)) (tVar 2) (tC (.int 1))) tNil))) tNil)) (gName 3) tYes (tCall sp_law_any [] E0 (tCons (tVar 0) (tCons (tVar 1) tNil))) [3]))
theorem dv_law_word {P : Program} {w : World} {K : PySem.W.Frag} {mg : Str → Option Value} {base : Heap} (G : Gs K mg) {sp_law_any : Sp} (C_law_any : C8.Cal P w K mg base 1 "_law_any" sp_law_any []) {cdv : Value} {A : Around} {outer : List Env} {s : Shared} {H : Hp} {E : XK} {f : Addr} (hr : Room 1 (A.deeper (envOfC "_law_word" (defScope s_law_word) s.heap.objs.size f cdv))) :
    PSs (cxOf CX0 P w K mg base N_law_word "_law_word" (defScope s_law_word) f cdv A outer s H E).nox (defBody s_law_word) (t_law_word P w K sp_law_any) := by
  have hu := hu_of hr
  have hu3 := hu2' hr
  have hu4 := hu64 hr
  have hu5 := hu65 hr
  exact (pss_one (ps_ret (pe_lc (own := [("_law_turn", 3)]) (g := (gName 3)) (tt := tYes) (te := (tCall sp_law_any [] E0 (tCons (tVar 0) (tCons (tVar 1) tNil)))) (by rfl) sc_law_word.nd (pi_range1 (by rfl) G.m_range (pa_cons (C8.pe_c C_law_any hr (by decide) (by rfl) (pa_cons (pv 0) (pa_cons (pe_op op_add (pv 2) pe_int) pa_nil))) pa_nil)) (blkOk_by (N := N_law_word) (sc := defScope s_law_word) (by decide +kernel)) (fun _ _ _ _ _ => (pg_name (i := 3) sc_law_word.nd (by rfl) (by exact .inl rfl) (hf := by exact .inr rfl))) (fun _ _ _ _ _ => pts_nil) (fun _ _ _ _ _ => (C8.pe_c C_law_any hr (by decide) (by rfl) (pa_cons (pv 0) (pa_cons (pv 1) pa_nil)))))))
abbrev N_law_told_word : List Str := ["_law_deal", "_law_cells", "_law_word_here", "_law_turn"]
theorem sc_law_told_word : FnScope N_law_told_word ["_law_deal", "_law_cells"] (defScope s_law_told_word) := ⟨rfl, rfl, rfl, by decide +kernel, rfl, by decide +kernel, by decide +kernel⟩
def t_law_told_word (P : Program) (w : World) (K : PySem.W.Frag) (sp_law_any : Sp) : TS := (tSeq (tAsg (tLst (tCons (tCall sp_law_any [] E0 (tCons (tVar 0) (tCons (tVar 1) tNil))) tNil)) (gName 2))
  (tSeq (tFor (iRng1 (tCons (tCall sp_law_any [] E0 (tCons (tVar 0) (tCons (tC (.int 4)) tNil))) tNil)) (gName 3) (tDrop (tBM K "list" rAppend (tVar 2) (tCons (tOp (rI (fun _ j => 0 < j) fun i j => .int (i % j)) (tCB rInt1 (tCons (tOp (rI0 fun i j => .int (i + j)) (tOp (rI0 fun i j => .int (i + j)) (tOp (rIxL K) (tVar 2) (tUn (rU fun i => .int (-i)) (tC (.int 1)))) (tC (.int 1))) (tCall sp_law_any [] E0 (tCons (tVar 0) (tCons (tOp (rI0 fun i j => .int (i - j)) (tVar 1) (tC (.int 1))) tNil)))) tNil)) (tVar 1)) tNil))))
  (tRet (tVar 2))))
theorem dv_law_told_word {P : Program} {w : World} {K : PySem.W.Frag} {mg : Str → Option Value} {base : Heap} (G : Gs K mg) {sp_law_any : Sp} (C_law_any : C8.Cal P w K mg base 1 "_law_any" sp_law_any []) {cdv : Value} {A : Around} {outer : List Env} {s : Shared} {H : Hp} {E : XK} {f : Addr} (hr : Room 1 (A.deeper (envOfC "_law_told_word" (defScope s_law_told_word) s.heap.objs.size f cdv))) :
    PSs (cxOf CX0 P w K mg base N_law_told_word "_law_told_word" (defScope s_law_told_word) f cdv A outer s H E).nox (defBody s_law_told_word) (t_law_told_word P w K sp_law_any) := by
  have hu := hu_of hr
  have hu3 := hu2' hr
  have hu4 := hu64 hr
  have hu5 := hu65 hr
  exact (pss_cons (ps_set (i := 2) sc_law_told_word.nd (by rfl) (by exact .inl rfl) (pe_lst (pa_cons (C8.pe_c C_law_any hr (by decide) (by rfl) (pa_cons (pv 0) (pa_cons (pv 1) pa_nil))) pa_nil)))
      (pss_cons (ps_for PassesOwn.never (by rfl) (pi_range1 (by rfl) G.m_range (pa_cons (C8.pe_c C_law_any hr (by decide) (by rfl) (pa_cons (pv 0) (pa_cons pe_int pa_nil))) pa_nil)) (pg_name (i := 3) sc_law_told_word.nd (by rfl) (by exact .inl rfl) (hf := by exact .inl rfl)) (pss_one (ps_expr (pe_bm PySem.F.plainAttrs_list PySem.F.slot_list_append PySem.F.type_list_append mt_append (pv 2) (pa_cons (pe_op op_mod (pe_callTy call_int1 (by rfl) G.m_int PyProof.Rows.boot_int (pa_cons (pe_op op_add (pe_op op_add (pe_ix ix_list (pv 2) (pe_un un_neg pe_int) (by exact fun _ _ => rfl)) pe_int) (C8.pe_c C_law_any hr (by decide) (by rfl) (pa_cons (pv 0) (pa_cons (pe_op op_sub (pv 1) pe_int) pa_nil)))) pa_nil)) (pv 1)) pa_nil)))))
      (pss_one (ps_ret (pv 2)))))
abbrev N_law_told_words : List Str := ["_law_deal", "_law_cells", "_law_words", "_law_turn", "_law_word_here", "_law_both", "_law_one", "_law_cell"]
theorem sc_law_told_words : FnScope N_law_told_words ["_law_deal", "_law_cells"] (defScope s_law_told_words) := ⟨rfl, rfl, rfl, by decide +kernel, rfl, by decide +kernel, by decide +kernel⟩
def t_law_told_words (P : Program) (w : World) (K : PySem.W.Frag) (sp_law_told_word : Sp) (sp_law_any : Sp) : TS := (tSeq (tAsg (tLst (tCons (tCall sp_law_told_word [] E0 (tCons (tVar 0) (tCons (tVar 1) tNil))) tNil)) (gName 2))
  (tSeq (tFor (iRng1 (tCons (tCall sp_law_any [] E0 (tCons (tVar 0) (tCons (tC (.int 3)) tNil))) tNil)) (gName 3) (tSeq (tAsg (tTup (tCons (tCall sp_law_told_word [] E0 (tCons (tVar 0) (tCons (tVar 1) tNil))) (tCons (tLst tNil) tNil))) (gTup K 2 (gCons (gName 4) (gCons (gName 5) gNil))))
  (tSeq (tFor (iSeq K (tVar 2)) (gName 6) (tAsg (tOp rCat (tVar 5) (tVar 6)) (gName 5)))
  (tIfS (tTest (tOp (rEqD K) (tLc (iRng1 (tCons (tVar 1) tNil)) (gName 7) (tTest (tOp (rI0 fun i j => .bl (decide (j < i))) (tBM K "list" (rCntI K) (tOp rCat (tVar 5) (tVar 4)) (tCons (tVar 7) tNil)) (tC (.int 5)))) (tVar 7) [7]) (tLst tNil))) (tDrop (tBM K "list" rAppend (tVar 2) (tCons (tVar 4) tNil))) tNext))))
  (tRet (tVar 2))))
theorem dv_law_told_words {P : Program} {w : World} {K : PySem.W.Frag} {mg : Str → Option Value} {base : Heap} (G : Gs K mg) {sp_law_told_word : Sp} {sp_law_any : Sp} (C_law_told_word : C8.Cal P w K mg base 2 "_law_told_word" sp_law_told_word []) (C_law_any : C8.Cal P w K mg base 1 "_law_any" sp_law_any []) {cdv : Value} {A : Around} {outer : List Env} {s : Shared} {H : Hp} {E : XK} {f : Addr} (hr : Room 2 (A.deeper (envOfC "_law_told_words" (defScope s_law_told_words) s.heap.objs.size f cdv))) :
    PSs (cxOf CX0 P w K mg base N_law_told_words "_law_told_words" (defScope s_law_told_words) f cdv A outer s H E).nox (defBody s_law_told_words) (t_law_told_words P w K sp_law_told_word sp_law_any) := by
  have hu := hu_of hr
  have hu3 := hu2' hr
  have hu4 := hu64 hr
  have hu5 := hu65 hr
  exact (pss_cons (ps_set (i := 2) sc_law_told_words.nd (by rfl) (by exact .inl rfl) (pe_lst (pa_cons (C8.pe_c C_law_told_word hr (by decide) (by rfl) (pa_cons (pv 0) (pa_cons (pv 1) pa_nil))) pa_nil)))
      (pss_cons (ps_for PassesOwn.never (by rfl) (pi_range1 (by rfl) G.m_range (pa_cons (C8.pe_c C_law_any hr (by decide) (by rfl) (pa_cons (pv 0) (pa_cons pe_int pa_nil))) pa_nil)) (pg_name (i := 3) sc_law_told_words.nd (by rfl) (by exact .inl rfl) (hf := by exact .inl rfl)) (pss_cons (ps_asg (pe_tup (pa_cons (C8.pe_c C_law_told_word hr (by decide) (by rfl) (pa_cons (pv 0) (pa_cons (pv 1) pa_nil))) (pa_cons (pe_lst pa_nil) pa_nil))) (pg_tup (by rfl) (pgs_cons (pg_name (i := 4) sc_law_told_words.nd (by rfl) (by exact .inr rfl) (hf := by exact .inl rfl)) (pgs_cons (pg_name (i := 5) sc_law_told_words.nd (by rfl) (by exact .inr rfl) (hf := by exact .inl rfl)) pgs_nil))))
      (pss_cons (ps_for PassesOwn.never (by rfl) (pi_seq (pv 2)) (pg_name (i := 6) sc_law_told_words.nd (by rfl) (by exact .inl rfl) (hf := by exact .inl rfl)) (pss_one (ps_set (i := 5) sc_law_told_words.nd (by rfl) (by exact .inr rfl) (pe_op op_cat (pv 5) (pv 6)))))
      (pss_one (ps_if (pt_cmpR (op_eqD hu4) (pe_lc (own := [("_law_cell", 7)]) (g := (gName 7)) (tt := (tTest (tOp (rI0 fun i j => .bl (decide (j < i))) (tBM K "list" (rCntI K) (tOp rCat (tVar 5) (tVar 4)) (tCons (tVar 7) tNil)) (tC (.int 5))))) (te := (tVar 7)) (by rfl) sc_law_told_words.nd (pi_range1 (by rfl) G.m_range (pa_cons (pv 1) pa_nil)) (blkOk_by (N := N_law_told_words) (sc := defScope s_law_told_words) (by decide +kernel)) (fun _ _ _ _ _ => (pg_name (i := 7) sc_law_told_words.nd (by rfl) (by exact .inl rfl) (hf := by exact .inr rfl))) (fun _ _ _ _ _ => (pts_one (pt_cmpR op_gt (pe_bm PySem.F.plainAttrs_list PySem.F.slot_list_count PySem.F.type_list_count mt_lcount (pe_op op_cat (pv 5) (pv 4)) (pa_cons (pv 7) pa_nil)) pe_int (nomark _)))) (fun _ _ _ _ _ => (pv 7))) (pe_lst pa_nil) (nomark _)) (pss_one (ps_expr (pe_bm PySem.F.plainAttrs_list PySem.F.slot_list_append PySem.F.type_list_append mt_append (pv 2) (pa_cons (pv 4) pa_nil)))) pss_nil)))))
      (pss_one (ps_ret (pv 2)))))
abbrev N_law_built : List Str := ["_law_cells", "_law_words", "_law_sizes", "_law_rows", "_law_pairs", "_law_word_here", "_law_last", "_law_cell", "_law_row", "_law_one", "_law_other"]
theorem sc_law_built : FnScope N_law_built ["_law_cells", "_law_words"] (defScope s_law_built) := ⟨rfl, rfl, rfl, by decide +kernel, rfl, by decide +kernel, by decide +kernel⟩
def t_law_built (P : Program) (w : World) (K : PySem.W.Frag) : TS := (tSeq (tAsg (tTup (tCons (tOp rRep (tLst (tCons (tC (.int 1)) tNil)) (tVar 0)) (tCons (tLst (tCons (tThen (tOp rRep (tLst (tCons (tC (.int 0)) tNil)) (tVar 0)) (kTup K)) tNil)) (tCons (tLst tNil) tNil)))) (gTup K 3 (gCons (gName 2) (gCons (gName 3) (gCons (gName 4) gNil)))))
  (tSeq (tFor (iSeq K (tVar 1)) (gName 5) (tSeq (tAsg (tC (.non)) (gName 6))
  (tFor (iSeq K (tVar 5)) (gName 7) (tSeq (tAsg (tOp rRep (tLst (tCons (tC (.int 0)) tNil)) (tVar 0)) (gName 8))
  (tSeq (tAsg (tOp (rIxL K) (tVar 2) (tVar 7)) (gSub (tVar 8) (tVar 7) rSetL))
  (tSeq (tAsg (tOp (rI0 fun i j => .int (i + j)) (tOp (rIxL K) (tVar 2) (tVar 7)) (tC (.int 1))) (gSub (tVar 2) (tVar 7) rSetL))
  (tSeq (tDrop (tBM K "list" rAppend (tVar 3) (tCons (tThen (tVar 8) (kTup K)) tNil)))
  (tSeq (tIfS (tTest (tOp rNotNo (tVar 6) (tC (.non)))) (tDrop (tBM K "list" rAppend (tVar 4) (tCons (tTup (tCons (tVar 6) (tCons (tThen (tVar 8) (kTup K)) tNil))) tNil))) tNext)
  (tAsg (tThen (tVar 8) (kTup K)) (gName 6))))))))))
  (tSeq (tAsg (tCB (rSortTA K) (tCons (tVar 3) tNil)) (gName 3))
  (tRet (tLst (tCons (tThen (tVar 2) (kTup K)) (tCons (tThen (tVar 3) (kTup K)) (tCons (tThen (tCB (rSortTA K) (tCons (tLc (iSeq K (tVar 4)) (gTup K 2 (gCons (gName 9) (gCons (gName 10) gNil))) tYes (tTup (tCons (tBM K "list" (rIndexD K) (tVar 3) (tCons (tVar 9) tNil)) (tCons (tBM K "list" (rIndexD K) (tVar 3) (tCons (tVar 10) tNil)) tNil))) [9, 10]) tNil)) (kTup K)) tNil))))))))
theorem dv_law_built {P : Program} {w : World} {K : PySem.W.Frag} {mg : Str → Option Value} {base : Heap} (G : Gs K mg) {cdv : Value} {A : Around} {outer : List Env} {s : Shared} {H : Hp} {E : XK} {f : Addr} (hr : Room 0 (A.deeper (envOfC "_law_built" (defScope s_law_built) s.heap.objs.size f cdv))) :
    PSs (cxOf CX0 P w K mg base N_law_built "_law_built" (defScope s_law_built) f cdv A outer s H E).nox (defBody s_law_built) (t_law_built P w K ) := by
  have hu := hu_of hr
  have hu3 := hu2' hr
  have hu4 := hu64 hr
  have hu5 := hu65 hr
  exact (pss_cons (ps_asg (pe_tup (pa_cons (pe_op op_rep (pe_lst (pa_cons pe_int pa_nil)) (pv 0)) (pa_cons (pe_lst (pa_cons (pe_tupleOf (by rfl) G.m_tuple (pe_op op_rep (pe_lst (pa_cons pe_int pa_nil)) (pv 0))) pa_nil)) (pa_cons (pe_lst pa_nil) pa_nil)))) (pg_tup (by rfl) (pgs_cons (pg_name (i := 2) sc_law_built.nd (by rfl) (by exact .inl rfl) (hf := by exact .inl rfl)) (pgs_cons (pg_name (i := 3) sc_law_built.nd (by rfl) (by exact .inr rfl) (hf := by exact .inl rfl)) (pgs_cons (pg_name (i := 4) sc_law_built.nd (by rfl) (by exact .inl rfl) (hf := by exact .inl rfl)) pgs_nil)))))
      (pss_cons (ps_for PassesOwn.never (by rfl) (pi_seq (pv 1)) (pg_name (i := 5) sc_law_built.nd (by rfl) (by exact .inl rfl) (hf := by exact .inl rfl)) (pss_cons (ps_set (i := 6) sc_law_built.nd (by rfl) (by exact .inl rfl) pe_non)
      (pss_one (ps_for PassesOwn.never (by rfl) (pi_seq (pv 5)) (pg_name (i := 7) sc_law_built.nd (by rfl) (by exact .inl rfl) (hf := by exact .inl rfl)) (pss_cons (ps_set (i := 8) sc_law_built.nd (by rfl) (by exact .inl rfl) (pe_op op_rep (pe_lst (pa_cons pe_int pa_nil)) (pv 0)))
      (pss_cons (ps_asg (pe_ix ix_list (pv 2) (pv 7) (by exact fun _ _ => rfl)) (pg_sub (pv 8) (pv 7) set_list))
      (pss_cons (ps_asg (pe_op op_add (pe_ix ix_list (pv 2) (pv 7) (by exact fun _ _ => rfl)) pe_int) (pg_sub (pv 2) (pv 7) set_list))
      (pss_cons (ps_expr (pe_bm PySem.F.plainAttrs_list PySem.F.slot_list_append PySem.F.type_list_append mt_append (pv 3) (pa_cons (pe_tupleOf (by rfl) G.m_tuple (pv 8)) pa_nil)))
      (pss_cons (ps_if (pt_cmpR op_notN (pv 6) pe_non (nomark _)) (pss_one (ps_expr (pe_bm PySem.F.plainAttrs_list PySem.F.slot_list_append PySem.F.type_list_append mt_append (pv 4) (pa_cons (pe_tup (pa_cons (pv 6) (pa_cons (pe_tupleOf (by rfl) G.m_tuple (pv 8)) pa_nil))) pa_nil)))) pss_nil)
      (pss_one (ps_set (i := 6) sc_law_built.nd (by rfl) (by exact .inl rfl) (pe_tupleOf (by rfl) G.m_tuple (pv 8)))))))))))))
      (pss_cons (ps_set (i := 3) sc_law_built.nd (by rfl) (by exact .inr rfl) (pe_callB cr_sortTA (by rfl) G.m_sorted PyProof.Rows.boot_sorted (pa_cons (pv 3) pa_nil)))
      (pss_one (ps_ret (pe_lst (pa_cons (pe_tupleOf (by rfl) G.m_tuple (pv 2)) (pa_cons (pe_tupleOf (by rfl) G.m_tuple (pv 3)) (pa_cons (pe_tupleOf (by rfl) G.m_tuple (pe_callB cr_sortTA (by rfl) G.m_sorted PyProof.Rows.boot_sorted (pa_cons (pe_lc (own := [("_law_one", 9), ("_law_other", 10)]) (g := (gTup K 2 (gCons (gName 9) (gCons (gName 10) gNil)))) (tt := tYes) (te := (tTup (tCons (tBM K "list" (rIndexD K) (tVar 3) (tCons (tVar 9) tNil)) (tCons (tBM K "list" (rIndexD K) (tVar 3) (tCons (tVar 10) tNil)) tNil)))) (by rfl) sc_law_built.nd (pi_seq (pv 4)) (blkOk_by (N := N_law_built) (sc := defScope s_law_built) (by decide +kernel)) (fun _ _ _ _ _ => (pg_tup (by rfl) (pgs_cons (pg_name (i := 9) sc_law_built.nd (by rfl) (by exact .inl rfl) (hf := by exact .inr rfl)) (pgs_cons (pg_name (i := 10) sc_law_built.nd (by rfl) (by exact .inl rfl) (hf := by exact .inr rfl)) pgs_nil)))) (fun _ _ _ _ _ => pts_nil) (fun _ _ _ _ _ => (pe_tup (pa_cons (pe_bm PySem.F.plainAttrs_list PySem.F.slot_list_index PySem.F.type_list_index (mt_indexD hu5) (pv 3) (pa_cons (pv 9) pa_nil)) (pa_cons (pe_bm PySem.F.plainAttrs_list PySem.F.slot_list_index PySem.F.type_list_index (mt_indexD hu5) (pv 3) (pa_cons (pv 10) pa_nil)) pa_nil))))) pa_nil))) pa_nil)))))))))
abbrev N_law_moved : List Str := ["_law_words", "_law_state", "_law_cell", "_law_word_here", "_law_at"]
theorem sc_law_moved : FnScope N_law_moved ["_law_words", "_law_state", "_law_cell"] (defScope s_law_moved) := ⟨rfl, rfl, rfl, by decide +kernel, rfl, by decide +kernel, by decide +kernel⟩
def t_law_moved (P : Program) (w : World) (K : PySem.W.Frag) : TS := (tRet (tThen (tLc (iZiK K (tCons (tVar 0) (tCons (tVar 1) tNil))) (gTup K 2 (gCons (gName 3) (gCons (gName 4) gNil))) tYes (tOp (rI0 fun i j => .int (i + j)) (tVar 4) (tCB rInt1 (tCons (tAndV (tOp (rI0 fun i j => .bl (decide (i < j))) (tVar 4) (tCB (rLn K) (tCons (tVar 3) tNil))) (tOp rEq (tOp (rIxL K) (tVar 3) (tVar 4)) (tVar 2))) tNil))) [3, 4]) (kTup K)))
theorem dv_law_moved {P : Program} {w : World} {K : PySem.W.Frag} {mg : Str → Option Value} {base : Heap} (G : Gs K mg) {cdv : Value} {A : Around} {outer : List Env} {s : Shared} {H : Hp} {E : XK} {f : Addr} (hr : Room 0 (A.deeper (envOfC "_law_moved" (defScope s_law_moved) s.heap.objs.size f cdv))) :
    PSs (cxOf CX0 P w K mg base N_law_moved "_law_moved" (defScope s_law_moved) f cdv A outer s H E).nox (defBody s_law_moved) (t_law_moved P w K ) := by
  have hu := hu_of hr
  have hu3 := hu2' hr
  have hu4 := hu64 hr
  have hu5 := hu65 hr
  exact (pss_one (ps_ret (pe_tupleOf (by rfl) G.m_tuple (pe_lc (own := [("_law_word_here", 3), ("_law_at", 4)]) (g := (gTup K 2 (gCons (gName 3) (gCons (gName 4) gNil)))) (tt := tYes) (te := (tOp (rI0 fun i j => .int (i + j)) (tVar 4) (tCB rInt1 (tCons (tAndV (tOp (rI0 fun i j => .bl (decide (i < j))) (tVar 4) (tCB (rLn K) (tCons (tVar 3) tNil))) (tOp rEq (tOp (rIxL K) (tVar 3) (tVar 4)) (tVar 2))) tNil)))) (by rfl) sc_law_moved.nd (pi_zipK (by rfl) G.m_zip (pa_cons (pv 0) (pa_cons (pv 1) pa_nil))) (blkOk_by (N := N_law_moved) (sc := defScope s_law_moved) (by decide +kernel)) (fun _ _ _ _ _ => (pg_tup (by rfl) (pgs_cons (pg_name (i := 3) sc_law_moved.nd (by rfl) (by exact .inl rfl) (hf := by exact .inr rfl)) (pgs_cons (pg_name (i := 4) sc_law_moved.nd (by rfl) (by exact .inl rfl) (hf := by exact .inr rfl)) pgs_nil)))) (fun _ _ _ _ _ => pts_nil) (fun _ _ _ _ _ => (pe_op op_add (pv 4) (pe_callTy call_int1 (by rfl) G.m_int PyProof.Rows.boot_int (pa_cons (pe_and (pe_cmpR op_lt (pv 4) (pe_callB (r := rLn K) call_len_seq (by rfl) G.m_len PySem.boot_len (pa_cons (pv 3) pa_nil)) (nomark _)) (pe_one (pe_cmpR op_eq (pe_ix ix_list (pv 3) (pv 4) (by exact fun _ _ => rfl)) (pv 2) (nomark _)))) pa_nil))))))))
abbrev N_law_most : List Str := ["_law_words", "_law_cells", "_law_length", "_law_table", "_law_counts", "_law_best", "_law_whole", "_law_many", "_law_longer", "_law_state", "_law_cell", "_law_key", "_law_word_here", "_law_pair"]
theorem sc_law_most : FnScope N_law_most ["_law_words", "_law_cells", "_law_length"] (defScope s_law_most) := ⟨rfl, rfl, rfl, by decide +kernel, rfl, by decide +kernel, by decide +kernel⟩
def t_law_most (P : Program) (w : World) (K : PySem.W.Frag) (sp_law_moved : Sp) : TS := (tSeq (tPar3 3 4 5 (tCons (tDOneT (tThen (tOp rRep (tLst (tCons (tC (.int 0)) tNil)) (tCB (rLn K) (tCons (tVar 0) tNil))) (kTup K)) (tLst (tCons (tC (.int 1)) (tCons (tTup tNil) tNil)))) (tCons (tLst tNil) (tCons (tC (.non)) tNil))))
  (tSeq (tAsg (tThen (tLc (iSeq K (tVar 0)) (gName 12) tYes (tCB (rLn K) (tCons (tVar 12) tNil)) [12]) (kTup K)) (gName 6))
  (tSeq (tFor (iRng1 (tCons (tOp (rI0 fun i j => .int (i + j)) (tVar 2) (tC (.int 1))) tNil)) (gName 7) (tSeq (tIfS (tAnd (tB (tDIn (tVar 6) (tVar 3))) (tTest (tOp rIsNo (tVar 5) (tC (.non))))) (tAsg (tOp (rIxL K) (tDGet (tVar 3) (tVar 6)) (tC (.int 1))) (gName 5)) tNext)
  (tSeq (tDrop (tBM K "list" rAppend (tVar 4) (tCons (tIf (tB (tDIn (tVar 6) (tVar 3))) (tOp (rIxL K) (tDGet (tVar 3) (tVar 6)) (tC (.int 0))) (tC (.int 0))) tNil)))
  (tSeq (tAsg tDNewT (gName 8))
  (tSeq (tLock (tFor (iKeys (tVar 3)) (gName 9) (tFor (iRng1 (tCons (tVar 1) tNil)) (gName 10) (tSeq (tPar 11 12 (tCons (tCall sp_law_moved [] E0 (tCons (tVar 0) (tCons (tVar 9) (tCons (tVar 10) tNil)))) (tCons (tOp (rCatA K) (tOp (rIxL K) (tDGet (tVar 3) (tVar 9)) (tC (.int 1))) (tTup (tCons (tVar 10) tNil))) tNil)))
  (tSeq (tIfS (tB (tDNotIn (tVar 11) (tVar 8))) (sDPut (tVar 8) (tVar 11) (tLst (tCons (tC (.int 0)) (tCons (tVar 12) tNil)))) tNext)
  (tSeq (tAsg (tDGet (tVar 8) (tVar 11)) (gName 13))
  (tSeq (tAsg (tOp (rI0 fun i j => .int (i + j)) (tOp (rIxL K) (tVar 13) (tC (.int 0))) (tOp (rIxL K) (tDGet (tVar 3) (tVar 9)) (tC (.int 0)))) (gSub (tVar 13) (tC (.int 0)) rSetL))
  (tAsg (tCB (rMinT K) (tCons (tOp (rIxL K) (tVar 13) (tC (.int 1))) (tCons (tVar 12) tNil))) (gSub (tVar 13) (tC (.int 1)) rSetL)))))))))
  (tAsg (tVar 8) (gName 3)))))))
  (tRet (tLst (tCons (tVar 4) (tCons (tVar 5) tNil)))))))
theorem dv_law_most {P : Program} {w : World} {K : PySem.W.Frag} {mg : Str → Option Value} {base : Heap} (G : Gs K mg) {sp_law_moved : Sp} (C_law_moved : C8.Cal P w K mg base 1 "_law_moved" sp_law_moved []) {cdv : Value} {A : Around} {outer : List Env} {s : Shared} {H : Hp} {E : XK} {f : Addr} (hr : Room 1 (A.deeper (envOfC "_law_most" (defScope s_law_most) s.heap.objs.size f cdv))) :
    PSs (cxOf CX0 P w K mg base N_law_most "_law_most" (defScope s_law_most) f cdv A outer s H E).nox (defBody s_law_most) (t_law_most P w K sp_law_moved) := by
  have hu := hu_of hr
  have hu3 := hu2' hr
  have hu4 := hu64 hr
  have hu5 := hu65 hr
  exact (pss_cons (ps_par3 (i := 3) (j := 4) (l := 5) (by rfl) sc_law_most.nd (by rfl) (by rfl) (by rfl) (by decide) (by decide) (by decide) (by rfl) (by rfl) (by rfl) (pa_cons (pe_dOneT hu (pe_tupleOf (by rfl) G.m_tuple (pe_op op_rep (pe_lst (pa_cons pe_int pa_nil)) (pe_callB (r := rLn K) call_len_seq (by rfl) G.m_len PySem.boot_len (pa_cons (pv 0) pa_nil)))) (pe_lst (pa_cons pe_int (pa_cons (pe_tup pa_nil) pa_nil)))) (pa_cons (pe_lst pa_nil) (pa_cons pe_non pa_nil))) (by kernel_rfl))
      (pss_cons (ps_set (i := 6) sc_law_most.nd (by rfl) (by exact .inl rfl) (pe_tupleOf (by rfl) G.m_tuple (pe_lc (own := [("_law_word_here", 12)]) (g := (gName 12)) (tt := tYes) (te := (tCB (rLn K) (tCons (tVar 12) tNil))) (by rfl) sc_law_most.nd (pi_seq (pv 0)) (blkOk_by (N := N_law_most) (sc := defScope s_law_most) (by decide +kernel)) (fun _ _ _ _ _ => (pg_name (i := 12) sc_law_most.nd (by rfl) (by exact .inl rfl) (hf := by exact .inr rfl))) (fun _ _ _ _ _ => pts_nil) (fun _ _ _ _ _ => (pe_callB (r := rLn K) call_len_seq (by rfl) G.m_len PySem.boot_len (pa_cons (pv 12) pa_nil))))))
      (pss_cons (ps_for PassesOwn.never (by rfl) (pi_range1 (by rfl) G.m_range (pa_cons (pe_op op_add (pv 2) pe_int) pa_nil)) (pg_name (i := 7) sc_law_most.nd (by rfl) (by exact .inl rfl) (hf := by exact .inl rfl)) (pss_cons (ps_if (PW.pt (pw_and (pt_cmp (pc_din hu (pv 6) (pv 3))) (pw_and1 (pt_cmpR op_isN (pv 5) pe_non (nomark _))))) (pss_one (ps_set (i := 5) sc_law_most.nd (by rfl) (by exact .inl rfl) (pe_ix ix_list (pe_dget hu (pv 3) (pv 6) (by exact fun _ _ => rfl)) pe_int (by exact fun _ _ => rfl)))) pss_nil)
      (pss_cons (ps_expr (pe_bm PySem.F.plainAttrs_list PySem.F.slot_list_append PySem.F.type_list_append mt_append (pv 4) (pa_cons (pe_ifExp (pt_cmp (pc_din hu (pv 6) (pv 3))) (pe_ix ix_list (pe_dget hu (pv 3) (pv 6) (by exact fun _ _ => rfl)) pe_int (by exact fun _ _ => rfl)) pe_int) pa_nil)))
      (pss_cons (ps_set (i := 8) sc_law_most.nd (by rfl) (by exact .inl rfl) pe_dnewT)
      (pss_cons (ps_lock (ps_for PassesOwn.never (by rfl) (pi_keys (pv 3)) (pg_name (i := 9) sc_law_most.nd (by rfl) (by exact .inl rfl) (hf := by exact .inl rfl)) (pss_one (ps_for PassesOwn.never (by rfl) (pi_range1 (by rfl) G.m_range (pa_cons (pv 1) pa_nil)) (pg_name (i := 10) sc_law_most.nd (by rfl) (by exact .inl rfl) (hf := by exact .inl rfl)) (pss_cons (ps_par (i := 11) (j := 12) (by rfl) sc_law_most.nd (by rfl) (by rfl) (by decide) (by rfl) (by rfl) (pa_cons (C8.pe_c C_law_moved hr (by decide) (by rfl) (pa_cons (pv 0) (pa_cons (pv 9) (pa_cons (pv 10) pa_nil)))) (pa_cons (pe_op op_catA (pe_ix ix_list (pe_dget hu (pv 3) (pv 9) (by exact fun _ _ => rfl)) pe_int (by exact fun _ _ => rfl)) (pe_tup (pa_cons (pv 10) pa_nil))) pa_nil)) (by kernel_rfl))
      (pss_cons (ps_if (pt_cmp (pc_dnotin hu (pv 11) (pv 8))) (pss_one (ps_dput hu (pv 8) (pv 11) (pe_lst (pa_cons pe_int (pa_cons (pv 12) pa_nil))) (by rfl))) pss_nil)
      (pss_cons (ps_set (i := 13) sc_law_most.nd (by rfl) (by exact .inl rfl) (pe_dget hu (pv 8) (pv 11) (by exact fun _ _ => rfl)))
      (pss_cons (ps_asg (pe_op op_add (pe_ix ix_list (pv 13) pe_int (by exact fun _ _ => rfl)) (pe_ix ix_list (pe_dget hu (pv 3) (pv 9) (by exact fun _ _ => rfl)) pe_int (by exact fun _ _ => rfl))) (pg_sub (pv 13) pe_int set_list))
      (pss_one (ps_asg (pe_callB (call_minT (by rfl) hu) (by rfl) G.m_min PyProof.Rows.boot_min (pa_cons (pe_ix ix_list (pv 13) pe_int (by exact fun _ _ => rfl)) (pa_cons (pv 12) pa_nil))) (pg_sub (pv 13) pe_int set_list)))))))))))
      (pss_one (ps_set (i := 3) sc_law_most.nd (by rfl) (by exact .inl rfl) (pv 8))))))))
      (pss_one (ps_ret (pe_lst (pa_cons (pv 4) (pa_cons (pv 5) pa_nil))))))))
end K24
set_option Elab.async false
set_option linter.all false
set_option maxRecDepth 100000
set_option maxHeartbeats 4000000
namespace K24
open PySem PySem.Spec PyProof.Rows L2
def S1 (f : V → Hp → VK → XK → Prop) : Sp := fun vs H Q E => ∃ a, vs = [a] ∧ f a H Q E
def S2 (f : V → V → Hp → VK → XK → Prop) : Sp := fun vs H Q E => ∃ a b, vs = [a, b] ∧ f a b H Q E
def S3 (f : V → V → V → Hp → VK → XK → Prop) : Sp := fun vs H Q E => ∃ a b c, vs = [a, b, c] ∧ f a b c H Q E
def S4 (f : V → V → V → V → Hp → VK → XK → Prop) : Sp := fun vs H Q E => ∃ a b c d, vs = [a, b, c, d] ∧ f a b c d H Q E
def S5 (f : V → V → V → V → V → Hp → VK → XK → Prop) : Sp := fun vs H Q E => ∃ a b c d e, vs = [a, b, c, d, e] ∧ f a b c d e H Q E
def S6 (f : V → V → V → V → V → V → Hp → VK → XK → Prop) : Sp := fun vs H Q E => ∃ a b c d e g, vs = [a, b, c, d, e, g] ∧ f a b c d e g H Q E
theorem s1_len {f vs H Q E} (h : S1 f vs H Q E) : vs.length = 1 := by obtain ⟨_, rfl, _⟩ := h; rfl
theorem s2_len {f vs H Q E} (h : S2 f vs H Q E) : vs.length = 2 := by obtain ⟨_, _, rfl, _⟩ := h; rfl
theorem s3_len {f vs H Q E} (h : S3 f vs H Q E) : vs.length = 3 := by obtain ⟨_, _, _, rfl, _⟩ := h; rfl
theorem s4_len {f vs H Q E} (h : S4 f vs H Q E) : vs.length = 4 := by obtain ⟨_, _, _, _, rfl, _⟩ := h; rfl
theorem s5_len {f vs H Q E} (h : S5 f vs H Q E) : vs.length = 5 := by obtain ⟨_, _, _, _, _, rfl, _⟩ := h; rfl
theorem s6_len {f vs H Q E} (h : S6 f vs H Q E) : vs.length = 6 := by obtain ⟨_, _, _, _, _, _, rfl, _⟩ := h; rfl
abbrev Dn (Q : VK) : Ends := { nx := fun _ H' => Q .non H', rt := Q }
section
variable {P : Program} {w : World} {K : PySem.W.Frag}
/-! ### words.py -/
def sp_is_integer : Sp := S1 fun v H Q _ => (∃ n : Int, v = .int n ∧ Q (.bl true) H) ∨ (∃ b, v = .bl b ∧ Q (.bl false) H)
theorem rd_is_integer {vs : List V} {H : Hp} {Q : VK} {E : XK} (h : sp_is_integer vs H Q E) : t_is_integer P w K (Dn Q) (start N_is_integer vs) H := by
  obtain ⟨v, rfl, h⟩ := h
  rcases h with ⟨n, rfl, q⟩ | ⟨b, rfl, q⟩
  · exact ⟨_, rfl, _, _, _, _, true, rfl, .ty _, .base (.int n), kit_ty (by decide +kernel), true, rfl, ⟨_, rfl, _, _, _, _, false, rfl, .ty _, .base (.int n), kit_ty (by decide +kernel), false, rfl, q⟩⟩
  · exact ⟨_, rfl, _, _, _, _, true, rfl, .ty _, .base (.bl b), kit_ty (by decide +kernel), true, rfl, ⟨_, rfl, _, _, _, _, true, rfl, .ty _, .base (.bl b), kit_ty (by decide +kernel), true, rfl, q⟩⟩
def sp_is_number : Sp := S1 fun v H Q _ => (∃ n : Int, v = .int n ∧ Q (.bl (decide (0 ≤ n))) H) ∨ (∃ b, v = .bl b ∧ Q (.bl false) H)
theorem rd_is_number {vs : List V} {H : Hp} {Q : VK} {E : XK} (h : sp_is_number vs H Q E) : t_is_number P w K sp_is_integer (Dn Q) (start N_is_number vs) H := by
  obtain ⟨v, rfl, h⟩ := h
  rcases h with ⟨n, rfl, q⟩ | ⟨b, rfl, q⟩
  · exact ⟨_, rfl, _, rfl, .inl ⟨n, rfl, true, rfl, ⟨_, rfl, _, _, rfl, rfl, q⟩⟩⟩
  · exact ⟨_, rfl, _, rfl, .inr ⟨b, rfl, false, rfl, q⟩⟩
/-- is it a list or a tuple -/
def IsSeq (H : Hp) (v : V) (b : Bool) : Prop := (b = true ∧ ∃ a xs, v = .ref a ∧ (H a = some (.lst xs) ∨ H a = some (.tup xs))) ∨ (b = false ∧ (v = .non ∨ (∃ n, v = .int n) ∨ (∃ c, v = .bl c) ∨ ∃ x, v = .str x))
def sp_is_sequence : Sp := S1 fun v H Q _ => ∃ b, IsSeq H v b ∧ ∀ H', Same H H' → Q (.bl b) H'
theorem rd_is_sequence {vs : List V} {H : Hp} {Q : VK} {E : XK} (h : sp_is_sequence vs H Q E) : t_is_sequence P w K (Dn Q) (start N_is_sequence vs) H := by
  obtain ⟨v, rfl, b, hs, q⟩ := h
  refine ⟨_, rfl, by decide, fun p np => ?_⟩
  have s := same_new (o := .tup [.ty "list", .ty "tuple"]) np
  refine ⟨v, p, [V.ty "list", V.ty "tuple"], ?_⟩
  have e : upd H p (.tup [V.ty "list", V.ty "tuple"]) p = some (.tup [V.ty "list", V.ty "tuple"]) := upd_same
  have pr : Paired ClsV [V.ty "list", V.ty "tuple"] [.type "list", .type "tuple"] := .cons (.ty _) (.cons (.ty _) .nil)
  rcases hs with ⟨rfl, a, xs, rfl, h | h⟩ | ⟨rfl, rfl | ⟨n, rfl⟩ | ⟨c, rfl⟩ | ⟨x, rfl⟩⟩
  · exact ⟨_, _, true, rfl, e, pr, .base (.lst (s _ _ h)), kitAny_cons (kit_ty (r := true) (by decide +kernel)) (fun z => by cases z) (fun _ => rfl), q _ s⟩
  · exact ⟨_, _, true, rfl, e, pr, .base (.tup (s _ _ h)), kitAny_cons (kit_ty (r := false) (by decide +kernel)) (fun _ => kitAny_cons (kit_ty (r := true) (by decide +kernel)) (fun z => by cases z) (fun _ => rfl)) (fun z => by cases z), q _ s⟩
  · exact ⟨_, _, false, rfl, e, pr, .base .non, kitAny_cons (kit_ty (r := false) (by decide +kernel)) (fun _ => kitAny_cons (kit_ty (r := false) (by decide +kernel)) (fun _ => rfl) (fun z => by cases z)) (fun z => by cases z), q _ s⟩
  · exact ⟨_, _, false, rfl, e, pr, .base (.int n), kitAny_cons (kit_ty (r := false) (by decide +kernel)) (fun _ => kitAny_cons (kit_ty (r := false) (by decide +kernel)) (fun _ => rfl) (fun z => by cases z)) (fun z => by cases z), q _ s⟩
  · exact ⟨_, _, false, rfl, e, pr, .base (.bl c), kitAny_cons (kit_ty (r := false) (by decide +kernel)) (fun _ => kitAny_cons (kit_ty (r := false) (by decide +kernel)) (fun _ => rfl) (fun z => by cases z)) (fun z => by cases z), q _ s⟩
  · exact ⟨_, _, false, rfl, e, pr, .base (.str x), kitAny_cons (kit_ty (r := false) (by decide +kernel)) (fun _ => kitAny_cons (kit_ty (r := false) (by decide +kernel)) (fun _ => rfl) (fun z => by cases z)) (fun z => by cases z), q _ s⟩
/-! ### houses.py -/
def Kd.ho : Kd → List V → HO
  | .L => .lst
  | .T => .tup
theorem sq_of {H : Hp} {a : Addr} {vs : List V} {k : Kd} (h : H a = some (k.ho vs)) : Sq K H a vs k := by
  cases k with
  | L => exact SqL.of h
  | T => exact SqT.of h
theorem seq_of {H : Hp} {a : Addr} {vs : List V} {k : Kd} (h : H a = some (k.ho vs)) : IsSeq H (.ref a) true := by
  cases k with
  | L => exact .inl ⟨rfl, a, vs, rfl, .inl h⟩
  | T => exact .inl ⟨rfl, a, vs, rfl, .inr h⟩
theorem sqs_of {H : Hp} {a : Addr} {vs : List V} {k : Kd} (h : H a = some (k.ho vs)) : SqL K H a vs ∨ SqT K H a vs := by
  cases k with
  | L => exact .inl (SqL.of h)
  | T => exact .inr (SqT.of h)
/-- a list or a tuple -/
def SK {α : Type} (R : Rl α) : Rl (List α) := fun H v xs => ∃ (k : Kd) (a : Addr) (vs : List V), v = .ref a ∧ H a = some (k.ho vs) ∧ Paired (R H) vs xs
def SN : Rl (List Nat) := fun H v ns => ∃ (k : Kd) (a : Addr), v = .ref a ∧ H a = some (k.ho (NL ns))
instance {α : Type} {R : Rl α} [SamR R] : SamR (SK R) := ⟨fun s ⟨k, a, vs, e, h, p⟩ => ⟨k, a, vs, e, s _ _ h, L2.Paired.mapP p fun _ _ q => SamR.mono s q⟩⟩
instance : SamR SN := ⟨fun s ⟨k, a, e, h⟩ => ⟨k, a, e, s _ _ h⟩⟩
theorem if_f {c : Bool} {A B : Prop} (hc : c = false) (h : B) : if c = true then A else B := by rw [if_neg (by rw [hc]; decide)]; exact h
theorem if_t {c : Bool} {A B : Prop} (hc : c = true) (h : A) : if c = true then A else B := by rw [if_pos hc]; exact h
def sp_wrong_size : Sp := S1 fun v H Q _ => ∃ xs, SN H v xs ∧ 1 ≤ xs.length ∧ xs.length ≤ 6 ∧ (∀ x ∈ xs, 1 ≤ x ∧ x ≤ 36) ∧ ∀ H', Same H H' → Q .non H'
theorem nl_getD {ns : List Nat} {i : Nat} (h : i < ns.length) : (NL ns).getD i .non = nV ns[i] := by
  have e : (NL ns)[i]? = some (nV ns[i]) := nl_get (by simp [h])
  exact get_getD e
theorem rd_wrong_size {vs : List V} {H : Hp} {Q : VK} {E : XK} (h : sp_wrong_size vs H Q E) : t_wrong_size P w K sp_is_sequence sp_is_number (Dn Q) (start N_wrong_size vs) H := by
  obtain ⟨v, rfl, xs, ⟨k, a, rfl, ha⟩, h1, h6, hx, q⟩ := h
  refine ⟨_, rfl, _, rfl, true, seq_of ha, fun H1 s1 => ⟨true, rfl, if_f rfl ?_⟩⟩
  have ha1 := s1 _ _ ha
  refine ⟨_, rfl, _, _, rfl, sqs_of ha1, _, _, rfl, rfl, _, rfl, ?_⟩
  rw [nl_len]
  refine if_t (by simp; omega) ⟨_, _, rfl, rfl, _, rfl, if_f (by simp; omega) ?_⟩
  refine ⟨_, rfl, a, NL xs, k, rfl, sq_of ha1, ?_⟩
  refine for_go (iw_enum (p := 1) (q := 2)) (fun i σ H' => ∃ o1 o2, σ = [some (.ref a), o1, o2] ∧ Same H H') ⟨_, _, rfl, s1⟩ (fun i σ H' _ ⟨_, _, _, s⟩ => sq_of (s _ _ ha)) (fun i σ H2 H3 hi ⟨o1, o2, e, s⟩ s' => ?_) (fun σ H' ⟨_, _, e, s⟩ => q _ s)
  subst e
  rw [nl_len] at hi
  have hm := hx xs[i] (List.getElem_mem hi)
  rw [nl_getD hi]
  refine ⟨_, rfl, _, rfl, .inl ⟨_, rfl, _, rfl, if_f (by simp) ⟨_, rfl, _, _, rfl, rfl, _, rfl, if_t (by simp; omega) ⟨_, _, rfl, rfl, _, rfl, if_f (by simp; omega) ⟨_, _, rfl, s.trans s'⟩⟩⟩⟩⟩
end
end K24
set_option Elab.async false
set_option linter.all false
set_option maxRecDepth 100000
set_option maxHeartbeats 4000000
namespace K24
open PySem PySem.Spec PyProof.Rows L2
/-! ### data of numbers and tuples -/
def dN (ns : List Nat) : PyData := .tuple (ns.map fun n : Nat => PyData.int (n : Int))
def dNN (nss : List (List Nat)) : PyData := .tuple (nss.map dN)
structure DOk (d : PyData) (k : Nat) : Prop where
  lay : d.canLay0 = true
  dep : d.depth ≤ k
theorem dok_int (i : Int) (k : Nat) : DOk (.int i) k := ⟨by simp only [PyData.canLay0], by simp only [PyData.depth]; omega⟩
theorem dok_all {xs : List PyData} {k : Nat} (h : ∀ x ∈ xs, DOk x k) : PyData.canLayAll0 xs = true ∧ PyData.depthAll xs ≤ k := by
  induction xs with
  | nil => exact ⟨by simp only [PyData.canLayAll0], by simp only [PyData.depthAll]; omega⟩
  | cons x r ih =>
    obtain ⟨h1, h2⟩ := ih fun y hy => h y (List.mem_cons_of_mem _ hy)
    obtain ⟨h3, h4⟩ := h x List.mem_cons_self
    refine ⟨by simp only [PyData.canLayAll0, h3, h1, Bool.and_self], ?_⟩
    simp only [PyData.depthAll]
    omega
theorem dok_tup {xs : List PyData} {k : Nat} (h : ∀ x ∈ xs, DOk x k) : DOk (.tuple xs) (k + 1) := by
  obtain ⟨h1, h2⟩ := dok_all h
  exact ⟨by simp only [PyData.canLay0, h1], by simp only [PyData.depth]; omega⟩
theorem dok_lst {xs : List PyData} {k : Nat} (h : ∀ x ∈ xs, DOk x k) : DOk (.list xs) (k + 1) := by
  obtain ⟨h1, h2⟩ := dok_all h
  exact ⟨by simp only [PyData.canLay0, h1], by simp only [PyData.depth]; omega⟩
theorem dok_N (ns : List Nat) : DOk (dN ns) 1 := dok_tup fun x hx => by
  obtain ⟨n, _, rfl⟩ := List.mem_map.mp hx
  exact dok_int _ _
theorem dok_NN (ns : List (List Nat)) : DOk (dNN ns) 2 := dok_tup fun x hx => by
  obtain ⟨n, _, rfl⟩ := List.mem_map.mp hx
  exact dok_N _
theorem DOk.shaped {d : PyData} {k : Nat} (h : DOk d k) (hk : k ≤ 64) : SeqAt.shaped d = true := by
  unfold SeqAt.shaped
  rw [h.lay, decide_eq_true (Nat.le_trans h.dep hk)]
  rfl
theorem eqv_N : ∀ a b : List Nat, PyData.eqv (dN a) (dN b) = decide (a = b) := by
  have all : ∀ a b : List Nat, PyData.eqvAll (a.map fun n : Nat => PyData.int (n : Int)) (b.map fun n : Nat => PyData.int (n : Int)) = decide (a = b) := by
    intro a
    induction a with
    | nil =>
      intro b
      cases b with
      | nil => simp only [List.map_nil, PyData.eqvAll, decide_true]
      | cons y r => simp only [List.map_nil, List.map_cons, PyData.eqvAll]; exact (decide_eq_false (fun z => nomatch z)).symm
    | cons x r ih =>
      intro b
      cases b with
      | nil => simp only [List.map_nil, List.map_cons, PyData.eqvAll]; exact (decide_eq_false (fun z => nomatch z)).symm
      | cons y q =>
        simp only [List.map_cons, PyData.eqvAll, PyData.eqv, ih]
        by_cases e : x = y
        · subst e
          simp
        · have e2 : ¬ ((x : Int) = (y : Int)) := fun z => e (Int.ofNat.inj z)
          have e3 : ¬ (x :: r = y :: q) := fun z => e (List.cons.inj z).1
          have e4 : ((x : Int) == (y : Int)) = false := beq_eq_false_iff_ne.mpr e2
          rw [e4, decide_eq_false e3]
          rfl
  intro a b
  unfold dN
  simp only [PyData.eqv]
  exact all a b
theorem eqvAll_refl {xs : List PyData} (h : ∀ x ∈ xs, PyData.eqv x x = true) : PyData.eqvAll xs xs = true := by
  induction xs with
  | nil => simp only [PyData.eqvAll]
  | cons x r ih =>
    simp only [PyData.eqvAll, h x List.mem_cons_self, ih fun y hy => h y (List.mem_cons_of_mem _ hy), Bool.and_self]
theorem eqv_NN (a : List (List Nat)) : PyData.eqv (dNN a) (dNN a) = true := by
  unfold dNN
  simp only [PyData.eqv]
  refine eqvAll_refl fun x hx => ?_
  obtain ⟨n, _, rfl⟩ := List.mem_map.mp hx
  rw [eqv_N, decide_eq_true rfl]
section
variable {K : PySem.W.Frag} {H : Hp}
theorem dp_nl : ∀ ns : List Nat, DpAll K H (NL ns) (ns.map fun n : Nat => PyData.int (n : Int))
  | [] => .nil
  | n :: r => .cons (.int _) (dp_nl r)
theorem dp_N {v : V} {ns : List Nat} (h : TN H v ns) : Dp K H v (dN ns) := by
  obtain ⟨a, rfl, h⟩ := h
  exact .tup (SqT.of h) (dp_nl ns)
theorem dp_all {α : Type} {R : Rl α} {f : α → PyData} (hf : ∀ v x, R H v x → Dp K H v (f x)) : ∀ {vs : List V} {xs : List α}, Paired (R H) vs xs → DpAll K H vs (xs.map f)
  | _, _, .nil => .nil
  | _, _, .cons q t => .cons (hf _ _ q) (dp_all hf t)
theorem dp_NN {v : V} {nss : List (List Nat)} (h : TTN H v nss) : Dp K H v (dNN nss) := by
  obtain ⟨a, vs, rfl, h, p⟩ := h
  exact .tup (SqT.of h) (dp_all (fun _ _ q => dp_N q) p)
end
/-! ### more on comprehensions -/
theorem all_true {ys : List V} {n : Nat} (hl : ys.length = n) (h : ∀ (i : Nat) (y : V), ys[i]? = some y → y = .bl true) : ys = (List.replicate n true).map V.bl := by
  apply List.ext_getElem
  · simp [hl]
  · intro i h1 h2
    rw [h i ys[i] (by simp [h1])]
    simp
theorem all_rep (n : Nat) : (List.replicate n true).all id = true := by
  induction n with
  | zero => rfl
  | succ n ih => rw [List.replicate_succ, List.all_cons, ih]; rfl
/-- [e for ..], each e true -/
theorem lc_all {J : It} {g : TG} {n : Nat} {sf : Nat → L2.St → L2.St} {G : Hp → Prop} {H1 : Hp} {D : Addr} (nD : H1 D = none) (w : Iw J g n sf G) {te : TE} {vs : List Nat} {σ : L2.St} {Qd : Hp → Prop} (hw : ∀ i, wipe (sf i (wipe σ vs)) vs = wipe σ vs) (hn : n ≤ 1000) (hG : ∀ H, Same H1 H → G H)
    (hs : ∀ i H, i < n → Same H1 H → ∀ Qk : VK, (∀ H', Same H H' → Qk (.bl true) H') → te (sf i (wipe σ vs)) H Qk)
    (hd : ∀ H2, Same H1 H2 → H2 D = some (.lst ((List.replicate n true).map V.bl)) → Qd H2) :
    ∃ W : Nat → Nat → Hp → Prop, (∃ m, W 0 m (upd H1 D (.lst []))) ∧ ∀ i m H, W i m H →
      (J.stop i H ∧ Qd H) ∨ (J.go i H ∧ ∃ Nx : Hp → Prop, (∀ H', Nx H' → ∃ m', m' < m ∧ W (i + 1) m' H') ∧ ∀ x H', J.yld i H x H' → g x (wipe σ vs) H' fun σ2 H2 => wipe σ2 vs = wipe σ vs ∧ tYes σ2 H2 fun b H3 =>
        if b = true then te σ2 H3 fun y H4 => ∃ acc, H4 D = some (.lst acc) ∧ acc.length < sizeLine ∧ Nx (upd H4 D (.lst (acc ++ [y]))) else Nx H3) := by
  refine lc_map nD w hw hn hG (fun _ _ y => y = .bl true) (fun _ _ _ _ _ h => h) (fun i H hi s Qk hk => hs i H hi s Qk fun H' s' => hk _ _ s' rfl) (fun H2 ys s e l r => hd H2 s ?_)
  rw [← all_true l r]
  exact e
end K24
set_option Elab.async false
set_option linter.all false
set_option maxRecDepth 100000
set_option maxHeartbeats 4000000
namespace K24
open PySem PySem.Spec PyProof.Rows L2
def Fits (xs c : List Nat) : Prop := c.length = xs.length ∧ ∀ (i x y : Nat), xs[i]? = some x → c[i]? = some y → y < x
section
variable {P : Program} {w : World} {K : PySem.W.Frag}
def sp_fits_sizes : Sp := S2 fun s v H Q _ => ∃ xs c, SN H s xs ∧ TN H v c ∧ Fits xs c ∧ xs.length ≤ 6 ∧ ∀ H', Same H H' → Q (.bl true) H'
theorem rd_fits_sizes {vs : List V} {H : Hp} {Q : VK} {E : XK} (h : sp_fits_sizes vs H Q E) : t_fits_sizes P w K sp_is_sequence sp_is_number (Dn Q) (start N_fits_sizes vs) H := by
  obtain ⟨s, v, rfl, xs, c, ⟨k, a, rfl, ha⟩, ⟨b, rfl, hb⟩, ⟨hl, hf⟩, h6, q⟩ := h
  refine ⟨_, rfl, _, rfl, true, seq_of (k := .T) hb, fun H1 s1 => ⟨true, rfl, if_f rfl ?_⟩⟩
  refine ⟨_, rfl, _, _, rfl, .inr (SqT.of (s1 _ _ hb)), _, rfl, _, _, rfl, sqs_of (s1 _ _ ha), rfl, _, rfl, if_f (by rw [nl_len, nl_len, hl]; simp) ?_⟩
  refine ⟨_, rfl, _, rfl, b, a, NL c, NL xs, .T, k, rfl, SqT.of (s1 _ _ hb), sq_of (s1 _ _ ha), ?_⟩
  intro D nD
  refine lc_all nD (iw_zip (p := 2) (q := 3) (n := xs.length) (by rw [nl_len, nl_len, hl]; simp)) (fun _ => rfl) (by omega) (fun H2 s2 => ⟨SqT.of (s2 _ _ (s1 _ _ hb)), sq_of (s2 _ _ (s1 _ _ ha))⟩) (fun i H2 hi s2 Qk hk => ?_) (fun H2 s2 e2 => ⟨D, List.replicate xs.length true, rfl, SqL.of e2, by rw [all_rep]; exact q _ (s1.trans s2)⟩)
  have hi' : i < c.length := by omega
  rw [nl_getD hi, nl_getD hi']
  have hlt : ((c[i] : Nat) : Int) < ((xs[i] : Nat) : Int) := Int.ofNat_lt.mpr (hf i _ _ (by simp [hi]) (by simp [hi']))
  refine ⟨_, rfl, _, rfl, .inl ⟨_, rfl, _, rfl, if_t (by simp) ⟨_, rfl, _, rfl, _, _, rfl, rfl, ?_⟩⟩⟩
  show Qk (.bl (decide (_ < _))) H2
  rw [decide_eq_true hlt]
  exact hk _ (Same.refl _)
/-- what is known of a dict that met the first i of cs -/
def Met (H : Hp) (m : Addr) (cs : List (List Nat)) (i : Nat) : Prop := ∃ kvs : List (List Key × V), H m = some (.dT kvs) ∧ kvs.length ≤ i ∧ ∀ c, (valV kvs (kN c)).isSome = true → c ∈ cs.take i
theorem met_put {H : Hp} {m b : Addr} {cs : List (List Nat)} {i : Nat} {c : List Nat} {v : V} (h : Met H m cs i) (hc : cs[i]? = some c) (hb : H b = some (.tup (NL c))) (hi : i < 1000) : ∃ H', DPut H m (.ref b) v H' ∧ Met H' m cs (i + 1) ∧ SmI H H' ∧ ∀ x, x ≠ m → H' x = H x := by
  obtain ⟨kvs, e, l, f⟩ := h
  refine ⟨_, DPut.t (k := kN c) e (by rw [kN_map]; exact hb) (Nat.lt_of_le_of_lt (Nat.le_trans l (Nat.le_of_lt hi)) (by decide)), ⟨_, upd_same, ?_, fun d hd => ?_⟩, smi_dT e, fun x hx => upd_ne hx⟩
  · have := length_putK kvs (kN c) v
    omega
  · rw [valV_put] at hd
    rw [List.take_succ, hc]
    by_cases z : kN d = kN c
    · rw [kN_inj z]
      simp
    · rw [if_neg z] at hd
      exact List.mem_append_left _ (f d hd)
theorem met_get {H : Hp} {m b : Addr} {cs : List (List Nat)} {i : Nat} {c : List Nat} (h : Met H m cs i) (nd : cs.Nodup) (hc : cs[i]? = some c) (hb : H b = some (.tup (NL c))) : ∃ o, DGet H m (.ref b) o ∧ o.isSome = false := by
  obtain ⟨kvs, e, l, f⟩ := h
  refine ⟨_, DGet.t (k := kN c) e (by rw [kN_map]; exact hb), ?_⟩
  cases z : (valV kvs (kN c)).isSome with
  | false => rfl
  | true =>
    exfalso
    obtain ⟨j, hj, ej⟩ := List.getElem_of_mem (f c z)
    rw [List.length_take] at hj
    rw [List.getElem_take] at ej
    have hi := (List.getElem?_eq_some_iff.mp hc)
    obtain ⟨hi, ei⟩ := hi
    have := (List.getElem_inj (h₀ := by omega) (h₁ := hi) nd).mp (ej.trans ei.symm)
    omega
theorem mem_get {α : Type} {xs : List α} {i : Nat} {x : α} (h : xs[i]? = some x) : x ∈ xs := by
  obtain ⟨hi, e⟩ := List.getElem?_eq_some_iff.mp h
  rw [← e]
  exact List.getElem_mem hi
def sp_wrong_standing : Sp := S2 fun s v H Q _ => ∃ xs cs, SN H s xs ∧ SK TN H v cs ∧ cs ≠ [] ∧ cs.Nodup ∧ (∀ c ∈ cs, Fits xs c) ∧ xs.length ≤ 6 ∧ cs.length ≤ 300 ∧ ∀ H', Same H H' → Q .non H'
theorem rd_wrong_standing {vs : List V} {H : Hp} {Q : VK} {E : XK} (h : sp_wrong_standing vs H Q E) : t_wrong_standing P w K sp_is_sequence sp_fits_sizes (Dn Q) (start N_wrong_standing vs) H := by
  obtain ⟨s, v, rfl, xs, cs, ⟨k, a, rfl, ha⟩, ⟨l, b, us, rfl, hb, hp⟩, hne, nd, hf, h6, h300, q⟩ := h
  have hul : us.length = cs.length := Paired.len hp
  refine ⟨_, rfl, _, rfl, true, seq_of hb, fun H1 s1 => ⟨true, rfl, if_f rfl ?_⟩⟩
  refine ⟨_, rfl, _, _, rfl, sqs_of (s1 _ _ hb), rfl, _, rfl, if_f (decide_eq_false fun z => hne ?_) ?_⟩
  · have z := V.int.inj z
    rw [hul] at z
    exact List.eq_nil_of_length_eq_zero (by omega)
  intro m nm
  have s2 : Same H (upd H1 m (.dT [])) := s1.trans (same_new nm)
  have nm0 : H m = none := s1.free nm
  refine ⟨_, rfl, b, us, l, rfl, sq_of (s2 _ _ hb), ?_⟩
  refine for_go (iw_enum (p := 3) (q := 4)) (fun i σ H' => ∃ o1 o2, σ = [some (.ref a), some (.ref b), some (.ref m), o1, o2] ∧ Same H H' ∧ Met H' m cs i) ⟨_, _, rfl, s2, [], upd_same, Nat.le_refl _, fun c hc => by simp [valV] at hc⟩
    (fun i σ H' _ ⟨_, _, _, s, _⟩ => sq_of (s _ _ hb)) (fun i σ H2 H3 hi ⟨o1, o2, e, s, mt⟩ s' => ?_) (fun σ H' ⟨_, _, e, s, _⟩ => q _ s)
  subst e
  obtain ⟨u, hu⟩ := lt_get hi
  obtain ⟨c, hc, t, rfl, ht⟩ := Paired.get' hp hu
  rw [get_getD hu]
  have s3 := s.trans s'
  refine ⟨_, rfl, _, rfl, _, _, rfl, xs, c, ⟨k, a, rfl, s3 _ _ ha⟩, ⟨t, rfl, s3 _ _ ht⟩, hf c (mem_get hc), h6, fun H4 s4 => ⟨true, rfl, if_f rfl ?_⟩⟩
  have s5 := s3.trans s4
  have mt4 : Met H4 m cs i := let ⟨kvs, e, l, f⟩ := mt; ⟨kvs, s4 _ _ (s' _ _ e), l, f⟩
  obtain ⟨o, dg, ho⟩ := met_get mt4 nd hc (s5 _ _ ht)
  refine ⟨_, rfl, .inr ⟨t, NL c, rfl, SqT.of (s5 _ _ ht), _, rfl, m, o, rfl, dg, _, rfl, if_f ho ?_⟩⟩
  obtain ⟨H6, dp, mt6, _, k6⟩ := met_put (v := .int (i : Nat)) mt4 hc (s5 _ _ ht) (by omega)
  refine ⟨_, rfl, _, rfl, _, rfl, .inr ⟨t, NL c, rfl, SqT.of (s5 _ _ ht), m, H6, rfl, dp, _, _, rfl, fun x o e => ?_, mt6⟩⟩
  rw [k6 x (ne_of_none e nm0)]
  exact s5 _ _ e
def sp_wrong_change : Sp := S2 fun c v H Q _ => ∃ (n : Nat) (ps : List (List Nat)), c = nV n ∧ SK TN H v ps ∧ ps.Nodup ∧ (∀ p ∈ ps, ∃ x y, p = [x, y] ∧ x < n ∧ y < n ∧ x ≠ y) ∧ ps.length ≤ 300 ∧ ∀ H', Same H H' → Q .non H'
theorem rd_wrong_change {vs : List V} {H : Hp} {Q : VK} {E : XK} (h : sp_wrong_change vs H Q E) : t_wrong_change P w K sp_is_sequence sp_is_number (Dn Q) (start N_wrong_change vs) H := by
  obtain ⟨s, v, rfl, n, cs, rfl, ⟨l, b, us, rfl, hb, hp⟩, nd, hf, h300, q⟩ := h
  have hul : us.length = cs.length := Paired.len hp
  refine ⟨_, rfl, _, rfl, true, seq_of hb, fun H1 s1 => ⟨true, rfl, if_f rfl ?_⟩⟩
  intro m nm
  have s2 : Same H (upd H1 m (.dT [])) := s1.trans (same_new nm)
  have nm0 : H m = none := s1.free nm
  refine ⟨_, rfl, b, us, l, rfl, sq_of (s2 _ _ hb), ?_⟩
  refine for_go (iw_enum (p := 3) (q := 4)) (fun i σ H' => ∃ o1 o2, σ = [some (nV n), some (.ref b), some (.ref m), o1, o2, none] ∧ Same H H' ∧ Met H' m cs i) ⟨_, _, rfl, s2, [], upd_same, Nat.le_refl _, fun c hc => by simp [valV] at hc⟩
    (fun i σ H' _ ⟨_, _, _, s, _⟩ => sq_of (s _ _ hb)) (fun i σ H2 H3 hi ⟨o1, o2, e, s, mt⟩ s' => ?_) (fun σ H' ⟨_, _, e, s, _⟩ => q _ s)
  subst e
  obtain ⟨u, hu⟩ := lt_get hi
  obtain ⟨c, hc, t, rfl, ht⟩ := Paired.get' hp hu
  rw [get_getD hu]
  have s3 := s.trans s'
  obtain ⟨x, y, rfl, hx, hy, hxy⟩ := hf c (mem_get hc)
  refine ⟨_, rfl, _, rfl, true, seq_of (k := .T) (s3 _ _ ht), fun H4 s4 => ⟨true, rfl, if_f rfl ?_⟩⟩
  have s5 := s3.trans s4
  refine ⟨_, rfl, _, _, rfl, .inr (SqT.of (s5 _ _ ht)), rfl, _, rfl, if_f rfl ?_⟩
  refine ⟨_, rfl, t, NL [x, y], .T, rfl, SqT.of (s5 _ _ ht), ?_⟩
  intro D nD
  refine lc_all nD (iw_seq (k := .T) (p := 5)) (fun _ => rfl) (by rw [nl_len]; show 2 ≤ 1000; omega) (fun H2 s2 => SqT.of (s2 _ _ (s5 _ _ ht))) (fun j H6 hj s6 Qk hk => ?_) (fun H6 s6 e6 => ⟨D, List.replicate (NL [x, y]).length true, rfl, SqL.of e6, ?_⟩)
  · rw [nl_getD (by simpa [nl_len] using hj)]
    have hlt : (([x, y][j]'(by simpa [nl_len] using hj) : Nat) : Int) < ((n : Nat) : Int) := by
      refine Int.ofNat_lt.mpr ?_
      have : j < 2 := by simpa [nl_len] using hj
      match j, this with
      | 0, _ => exact hx
      | 1, _ => exact hy
    refine ⟨_, rfl, _, rfl, .inl ⟨_, rfl, _, rfl, if_t (by simp) ⟨_, rfl, _, rfl, _, _, rfl, rfl, ?_⟩⟩⟩
    show Qk (.bl (decide (_ < _))) H6
    rw [decide_eq_true hlt]
    exact hk _ (Same.refl _)
  · rw [all_rep]
    refine ⟨true, rfl, if_f rfl ?_⟩
    have s7 := s5.trans s6
    have ht7 := s7 _ _ ht
    refine ⟨_, rfl, t, _, _, nV x, rfl, rfl, SqT.of ht7, rfl, _, rfl, t, _, _, nV y, rfl, rfl, SqT.of ht7, rfl, rfl, _, rfl, if_f (decide_eq_false fun z => hxy (Int.ofNat.inj (V.int.inj z))) ?_⟩
    have mt4 : Met H6 m cs i := let ⟨kvs, e, l, f⟩ := mt; ⟨kvs, s6 _ _ (s4 _ _ (s' _ _ e)), l, f⟩
    obtain ⟨o, dg, ho⟩ := met_get mt4 nd hc ht7
    refine ⟨_, rfl, .inr ⟨t, NL [x, y], rfl, SqT.of ht7, _, rfl, m, o, rfl, dg, _, rfl, if_f ho ?_⟩⟩
    obtain ⟨H8, dp, mt8, _, k8⟩ := met_put (v := .int (i : Nat)) mt4 hc ht7 (by omega)
    refine ⟨_, rfl, _, rfl, _, rfl, .inr ⟨t, NL [x, y], rfl, SqT.of ht7, m, H8, rfl, dp, _, _, rfl, fun x o e => ?_, mt8⟩⟩
    rw [k8 x (ne_of_none e nm0)]
    exact s7 _ _ e
end
end K24
set_option Elab.async false
set_option linter.all false
set_option maxRecDepth 100000
set_option maxHeartbeats 4000000
namespace K24
open PySem PySem.Spec PyProof.Rows L2
/-! ### sorting, as data -/
def toI (c : List Nat) : List Int := c.map fun n : Nat => (n : Int)
def cdle (c d : List Nat) : Prop := TS.code 64 (toI c) ≤ TS.code 64 (toI d)
structure IsSort (cs st : List (List Nat)) : Prop where
  perm : st.Perm cs
  pw : st.Pairwise cdle
theorem tn_fun {H : Hp} {v : V} {a b : List Nat} (h : TN H v a) (h' : TN H v b) : a = b := by
  obtain ⟨p, rfl, e⟩ := h
  obtain ⟨q, z, e'⟩ := h'
  cases z
  rw [e] at e'
  injection e' with e'
  injection e' with e'
  exact nl_inj e'
open Classical in
noncomputable def tnOf (H : Hp) (v : V) : List Nat := if h : ∃ ns, TN H v ns then h.choose else []
theorem tnOf_eq {H : Hp} {v : V} {ns : List Nat} (h : TN H v ns) : tnOf H v = ns := by
  unfold tnOf
  rw [dif_pos ⟨ns, h⟩]
  exact tn_fun (Exists.choose_spec (⟨ns, h⟩ : ∃ ns, TN H v ns)) h
theorem paired_map {H : Hp} : ∀ {us : List V} {cs : List (List Nat)}, Paired (TN H) us cs → cs = us.map (tnOf H)
  | _, _, .nil => rfl
  | _, _, .cons q t => by rw [List.map_cons, tnOf_eq q, ← paired_map t]
theorem paired_of_map {H : Hp} : ∀ {us : List V}, (∀ u ∈ us, ∃ ns, TN H u ns) → Paired (TN H) us (us.map (tnOf H))
  | [], _ => .nil
  | u :: us, h => by
    obtain ⟨ns, e⟩ := h u List.mem_cons_self
    refine .cons ?_ (paired_of_map fun v hv => h v (List.mem_cons_of_mem _ hv))
    rw [tnOf_eq e]
    exact e
theorem paired_tn {H : Hp} {us : List V} {cs : List (List Nat)} (h : Paired (TN H) us cs) : ∀ u ∈ us, ∃ ns, ns ∈ cs ∧ TN H u ns := by
  induction h with
  | nil => intro u hu; cases hu
  | cons q t ih =>
    intro u hu
    rcases List.mem_cons.mp hu with rfl | hu
    · exact ⟨_, List.mem_cons_self, q⟩
    · obtain ⟨ns, h1, h2⟩ := ih u hu
      exact ⟨ns, List.mem_cons_of_mem _ h1, h2⟩
theorem nl_toI (ns : List Nat) : NL ns = (toI ns).map V.int := by
  unfold NL toI
  rw [List.map_map]
  rfl
theorem tupI {K : PySem.W.Frag} {H : Hp} {v : V} {ns : List Nat} (h : TN H v ns) : TupI K H v (toI ns) := by
  obtain ⟨a, rfl, e⟩ := h
  exact ⟨a, rfl, SqT.of (by rw [← nl_toI]; exact e)⟩
theorem sort_data {K : PySem.W.Frag} {H : Hp} {us ys : List V} {cs : List (List Nat)} (hp : Paired (TN H) us cs) (perm : ys.Perm us)
    (pw : ys.Pairwise (fun x y => ∀ n m, TupI K H x n → TupI K H y m → TS.code 64 n ≤ TS.code 64 m)) : ∃ st, Paired (TN H) ys st ∧ IsSort cs st := by
  have all : ∀ u ∈ ys, ∃ ns, TN H u ns := fun u hu => let ⟨ns, _, e⟩ := paired_tn hp u (perm.mem_iff.mp hu); ⟨ns, e⟩
  refine ⟨ys.map (tnOf H), paired_of_map all, ?_, ?_⟩
  · rw [paired_map hp]
    exact perm.map _
  · rw [List.pairwise_map]
    refine List.Pairwise.imp_of_mem (fun {a b} ha hb h => ?_) pw
    obtain ⟨x, hx⟩ := all a ha
    obtain ⟨y, hy⟩ := all b hb
    show TS.code 64 (toI (tnOf H a)) ≤ TS.code 64 (toI (tnOf H b))
    rw [tnOf_eq hx, tnOf_eq hy]
    exact h _ _ (tupI hx) (tupI hy)
theorem bd_toI {c : List Nat} (h : ∀ x ∈ c, x < 64) : TS.Bd 64 (toI c) := fun m hm => by
  obtain ⟨n, hn, rfl⟩ := List.mem_map.mp hm
  have := h n hn
  omega
/-! ### a House -/
structure HD where
  sizes : List Nat
  standings : List (List Nat)
  changes : List (List Nat)
  ahead : List (List Nat)
  behind : List (List Nat)
def HS (K : PySem.W.Frag) : Rl HD := fun H v D => ∃ a dx fs s t c ah be, v = .ref a ∧ H a = some (.ins (cH K) dx fs) ∧ fs.lookup ("sizes" : Str) = some s ∧ TN H s D.sizes ∧ fs.lookup ("standings" : Str) = some t ∧ TTN H t D.standings ∧
  fs.lookup ("changes" : Str) = some c ∧ TTN H c D.changes ∧ fs.lookup ("ahead" : Str) = some ah ∧ TTN H ah D.ahead ∧ fs.lookup ("behind" : Str) = some be ∧ TTN H be D.behind
instance {K : PySem.W.Frag} : ImmR (HS K) := ⟨fun q ⟨a, dx, fs, s, t, c, ah, be, h0, h1, h2, h3, h4, h5, h6, h7, h8, h9, h10, h11⟩ =>
  ⟨a, dx, fs, s, t, c, ah, be, h0, q _ _ trivial h1, h2, ImmR.mono q h3, h4, ImmR.mono q h5, h6, ImmR.mono q h7, h8, ImmR.mono q h9, h10, ImmR.mono q h11⟩⟩
def isHouse (K : PySem.W.Frag) (H : Hp) (v : V) : Prop := ∃ a dx fs, v = .ref a ∧ H a = some (.ins (cH K) dx fs)
theorem HS.is {K : PySem.W.Frag} {H : Hp} {v : V} {D : HD} (h : HS K H v D) : isHouse K H v := let ⟨a, dx, fs, _, _, _, _, _, e, h, _⟩ := h; ⟨a, dx, fs, e, h⟩
section
variable {P : Program} {w : World} {K : PySem.W.Frag} {mg : Str → Option Value}
def sp_need_house (K : PySem.W.Frag) : Sp := S1 fun v H Q _ => isHouse K H v ∧ Q v H
theorem rd_need_house {vs : List V} {H : Hp} {Q : VK} {E : XK} (h : sp_need_house K vs H Q E) : t_need_house P w K (Dn Q) (start N_need_house vs) H := by
  obtain ⟨v, rfl, ⟨a, dx, fs, rfl, ha⟩, q⟩ := h
  exact ⟨_, rfl, a, dx, fs, rfl, ha, true, rfl, if_f rfl ⟨_, rfl, q⟩⟩
def sp_Houselen (K : PySem.W.Frag) : Sp := S1 fun v H Q _ => ∃ D, HS K H v D ∧ Q (nV D.standings.length) H
theorem rd_Houselen (G : Gs K mg) {vs : List V} {H : Hp} {Q : VK} {E : XK} (h : sp_Houselen K vs H Q E) : t_Houselen P w K (Dn Q) (start N_Houselen vs) H := by
  obtain ⟨v, rfl, D, ⟨a, dx, fs, s, t, c, ah, be, rfl, h1, h2, h3, h4, ⟨b, us, rfl, hb, hp⟩, h6, h7, h8, h9, h10, h11⟩, q⟩ := h
  refine ⟨_, rfl, a, _, dx, fs, _, rfl, h1, G.cls, G.n_standings, h4, b, us, rfl, .inr (SqT.of hb), ?_⟩
  rw [Paired.len hp]
  exact q
def sp_Houseeq (K : PySem.W.Frag) : Sp := S2 fun v u H Q _ => ∃ D E, HS K H v D ∧ HS K H u E ∧ D.sizes = E.sizes ∧ D.standings = E.standings ∧ D.changes = E.changes ∧ ∀ H', Same H H' → Q (.bl true) H'
theorem rd_Houseeq (G : Gs K mg) {vs : List V} {H : Hp} {Q : VK} {E : XK} (h : sp_Houseeq K vs H Q E) : t_Houseeq P w K (Dn Q) (start N_Houseeq vs) H := by
  obtain ⟨v, u, rfl, D, E', ⟨a, dx, fs, s, t, c, ah, be, rfl, h1, h2, h3, h4, h5, h6, h7, h8, h9, h10, h11⟩, ⟨a', dx', fs', s', t', c', ah', be', rfl, g1, g2, g3, g4, g5, g6, g7, g8, g9, g10, g11⟩, e1, e2, e3, q⟩ := h
  refine ⟨_, rfl, a', dx', fs', rfl, g1, true, rfl, if_f rfl ?_⟩
  refine ⟨_, rfl, a, _, dx, fs, s, rfl, h1, G.cls, G.n_sizes, h2, _, rfl, a, _, dx, fs, t, rfl, h1, G.cls, G.n_standings, h4, _, rfl, a, _, dx, fs, c, rfl, h1, G.cls, G.n_changes, h6, (by show 3 ≤ sizeLine; decide), fun p np => ?_⟩
  have sp := same_new (o := .tup [s, t, c]) np
  refine ⟨_, rfl, a', _, dx', fs', s', rfl, sp _ _ g1, G.cls, G.n_sizes, g2, _, rfl, a', _, dx', fs', t', rfl, sp _ _ g1, G.cls, G.n_standings, g4, _, rfl, a', _, dx', fs', c', rfl, sp _ _ g1, G.cls, G.n_changes, g6, (by show 3 ≤ sizeLine; decide), fun r nr => ?_⟩
  have sr := sp.trans (same_new (o := .tup [s', t', c']) nr)
  have hpp : (upd (upd H p (.tup [s, t, c])) r (.tup [s', t', c'])) p = some (.tup [s, t, c]) := same_new nr _ _ upd_same
  have ok : DOk (.tuple [dN D.sizes, dNN D.standings, dNN D.changes]) 3 := dok_tup fun x hx => by
    simp only [List.mem_cons, List.not_mem_nil, or_false] at hx
    rcases hx with rfl | rfl | rfl
    · exact ⟨(dok_N _).lay, Nat.le_trans (dok_N _).dep (by decide)⟩
    · exact dok_NN _
    · exact dok_NN _
  refine ⟨.tuple [dN D.sizes, dNN D.standings, dNN D.changes], .tuple [dN D.sizes, dNN D.standings, dNN D.changes], ?_, ?_, ok.shaped (by decide), ok.shaped (by decide), ?_⟩
  · exact .tup (SqT.of hpp) (.cons (dp_N (SamR.mono sr h3)) (.cons (dp_NN (SamR.mono sr h5)) (.cons (dp_NN (SamR.mono sr h7)) .nil)))
  · rw [e1, e2, e3]
    exact .tup (SqT.of upd_same) (.cons (dp_N (SamR.mono sr g3)) (.cons (dp_NN (SamR.mono sr g5)) (.cons (dp_NN (SamR.mono sr g7)) .nil)))
  · have : PyData.eqv (.tuple [dN D.sizes, dNN D.standings, dNN D.changes]) (.tuple [dN D.sizes, dNN D.standings, dNN D.changes]) = true := by
      simp only [PyData.eqv, PyData.eqvAll, eqv_N, eqv_NN, decide_true, Bool.and_self]
    rw [this]
    exact q _ sr
end
end K24
set_option Elab.async false
set_option linter.all false
set_option maxRecDepth 100000
set_option maxHeartbeats 4000000
namespace K24
open PySem PySem.Spec PyProof.Rows L2
/-! ### House.__init__ -/
def SmT (H H' : Hp) : Prop := ∀ b xs, H b = some (.tup xs) → H' b = some (.tup xs)
theorem SmT.trans {H H1 H2 : Hp} (a : SmT H H1) (b : SmT H1 H2) : SmT H H2 := fun c o h => b c o (a c o h)
theorem smT {H H' : Hp} (s : Same H H') : SmT H H' := fun b o h => s b _ h
theorem smT_upd {H : Hp} {a : Addr} {o u : HO} (h : H a = some o) (n : ∀ xs, o ≠ .tup xs) : SmT H (upd H a u) := fun b x e => by
  rw [upd_ne]
  · exact e
  · intro z; subst z; rw [h] at e; cases e; exact n _ rfl
theorem tn_T {H H' : Hp} {v : V} {ns : List Nat} (s : SmT H H') (h : TN H v ns) : TN H' v ns := let ⟨a, e, h⟩ := h; ⟨a, e, s _ _ h⟩
theorem ttn_T {H H' : Hp} {v : V} {ns : List (List Nat)} (s : SmT H H') (h : TTN H v ns) : TTN H' v ns := let ⟨a, vs, e, h, p⟩ := h; ⟨a, vs, e, s _ _ h, L2.Paired.mapP p fun _ _ q => tn_T s q⟩
/-- all but what stands at x is as it was -/
def SmX (x : Addr) (H H' : Hp) : Prop := ∀ b o, b ≠ x → H b = some o → H' b = some o
theorem smx {x : Addr} {H H' : Hp} (s : Same H H') : SmX x H H' := fun b o _ h => s b o h
theorem SmX.trans {x : Addr} {H H1 H2 : Hp} (a : SmX x H H1) (b : SmX x H1 H2) : SmX x H H2 := fun c o n h => b c o n (a c o n h)
theorem smx_upd {x : Addr} {H : Hp} {o : HO} : SmX x H (upd H x o) := fun b u n h => by rw [upd_ne n]; exact h
theorem smx_out {x p : Addr} {H H1 : Hp} {o : HO} (s : SmX x H H1) (h : H p = none) : SmX x H (upd H1 p o) := fun b u n e => by
  rw [upd_ne (ne_of_none e h)]
  exact s _ _ n e
/-- rows of numbers: a list of lists, each apart -/
structure RowsAt (H : Hp) (D : Addr) (ps : List Addr) (rows : List (List Nat)) : Prop where
  at_ : H D = some (.lst (ps.map V.ref))
  len : ps.length = rows.length
  nd : ps.Nodup
  out : D ∉ ps
  row : ∀ (i : Nat) (p : Addr) (r : List Nat), ps[i]? = some p → rows[i]? = some r → H p = some (.lst (NL r))
theorem RowsAt.same {H H' : Hp} {D : Addr} {ps : List Addr} {rows : List (List Nat)} (s : Same H H') (r : RowsAt H D ps rows) : RowsAt H' D ps rows := ⟨s _ _ r.at_, r.len, r.nd, r.out, fun i p q h1 h2 => s _ _ (r.row i p q h1 h2)⟩
/-- [[] for ..] -/
theorem lc_rows {J : It} {g : TG} {n : Nat} {sf : Nat → L2.St → L2.St} {G : Hp → Prop} {H1 : Hp} {D : Addr} (nD : H1 D = none) (w : Iw J g n sf G) {vs : List Nat} {σ : L2.St} {Qd : Hp → Prop} (hw : ∀ i, wipe (sf i (wipe σ vs)) vs = wipe σ vs) (hn : n ≤ 1000) (hG : ∀ H, Same H1 H → G H)
    (hd : ∀ H2 ps, Same H1 H2 → RowsAt H2 D ps (List.replicate n []) → (∀ p ∈ ps, H1 p = none) → Qd H2) :
    ∃ W : Nat → Nat → Hp → Prop, (∃ m, W 0 m (upd H1 D (.lst []))) ∧ ∀ i m H, W i m H →
      (J.stop i H ∧ Qd H) ∨ (J.go i H ∧ ∃ Nx : Hp → Prop, (∀ H', Nx H' → ∃ m', m' < m ∧ W (i + 1) m' H') ∧ ∀ x H', J.yld i H x H' → g x (wipe σ vs) H' fun σ2 H2 => wipe σ2 vs = wipe σ vs ∧ tYes σ2 H2 fun b H3 =>
        if b = true then (tLst tNil) σ2 H3 fun y H4 => ∃ acc, H4 D = some (.lst acc) ∧ acc.length < sizeLine ∧ Nx (upd H4 D (.lst (acc ++ [y]))) else Nx H3) := by
  refine lc_go w hw (Qd := Qd) (fun i H => ∃ ps, Same H1 H ∧ RowsAt H D ps (List.replicate i []) ∧ ∀ p ∈ ps, H1 p = none) ⟨[], same_new nD, ⟨upd_same, rfl, List.nodup_nil, by simp, fun i p r h => by simp at h⟩, fun p hp => by cases hp⟩ (fun i H _ ⟨_, s, _⟩ => hG H s) (fun i H H' hi ⟨ps, s, r, f⟩ s' => ?_) (fun H ⟨ps, s, r, f⟩ => hd H ps s r f)
  simp only [tYes, if_true]
  refine ⟨by show 0 ≤ sizeLine; exact Nat.zero_le _, fun p np => ?_⟩
  have r' := r.same s'
  have hl : ps.length = i := by rw [r.len, List.length_replicate]
  have pD : D ≠ p := ne_of_none r'.at_ np
  have s1 := same_new (o := .lst []) np
  have pn : p ∉ ps := fun hp => by
    obtain ⟨j, hj, e⟩ := List.getElem_of_mem hp
    have h1 : ps[j]? = some p := by rw [← e]; simp [hj]
    have h2 : (List.replicate i ([] : List Nat))[j]? = some [] := by rw [List.getElem?_replicate, if_pos (by omega)]
    have := r'.row j p [] h1 h2
    rw [np] at this
    cases this
  refine ⟨ps.map V.ref, s1 _ _ r'.at_, by rw [List.length_map, hl]; exact Nat.lt_of_lt_of_le (Nat.lt_of_lt_of_le hi hn) (by decide), ps ++ [p], same_out (s.trans (s'.trans s1)) nD, ⟨by rw [upd_same, List.map_append]; rfl, by simp [hl], ?_, ?_, fun j a q ha hq => ?_⟩, fun a ha => ?_⟩
  · rw [List.nodup_append]
    exact ⟨r.nd, by simp, fun a ha b hb => by simp at hb; subst hb; exact fun z => pn (z ▸ ha)⟩
  · simp only [List.mem_append, List.mem_singleton, not_or]
    exact ⟨r.out, pD⟩
  · have hq0 : q = [] := by
      rw [List.getElem?_replicate] at hq
      split at hq
      · exact (Option.some.inj hq).symm
      · cases hq
    subst hq0
    by_cases hj : j < ps.length
    · rw [List.getElem?_append_left hj] at ha
      have ha2 : a ∈ ps := mem_get ha
      rw [upd_ne (fun z => r.out (by rw [← z]; exact ha2)), upd_ne (fun z => pn (by rw [← z]; exact ha2))]
      exact r'.row j a [] ha (by rw [List.getElem?_replicate, if_pos (by omega)])
    · rw [List.getElem?_append_right (by omega)] at ha
      have : a = p := by
        have h3 := mem_get ha
        simpa using h3
      subst this
      rw [upd_ne (fun z => pD z.symm), upd_same]
      rfl
  · rcases List.mem_append.mp ha with ha | ha
    · exact f a ha
    · simp at ha
      subst ha
      exact same_none (s.trans s') np
/-- the goals of the changes that start at k -/
def goalsOf (chs : List (List Nat)) (i j k : Nat) : List Nat := (chs.filter fun p => p.getD i 0 == k).map fun p => p.getD j 0
def rowsOf (n : Nat) (chs : List (List Nat)) (i j : Nat) : List (List Nat) := (List.range n).map (goalsOf chs i j)
theorem rowsOf_len (n : Nat) (chs : List (List Nat)) (i j : Nat) : (rowsOf n chs i j).length = n := by unfold rowsOf; simp
theorem rowsOf_get {n : Nat} {chs : List (List Nat)} {i j k : Nat} (h : k < n) : (rowsOf n chs i j)[k]? = some (goalsOf chs i j k) := by
  unfold rowsOf
  rw [List.getElem?_map, List.getElem?_range h]
  rfl
theorem rowsOf_nil (n i j : Nat) : rowsOf n [] i j = List.replicate n [] := by
  apply List.ext_getElem?
  intro k
  by_cases h : k < n
  · rw [rowsOf_get h, List.getElem?_replicate, if_pos h]
    rfl
  · rw [List.getElem?_eq_none (by rw [rowsOf_len]; omega), List.getElem?_eq_none (by simp; omega)]
/-- one more change -/
theorem rows_append {H : Hp} {D : Addr} {ps : List Addr} {n : Nat} {chs : List (List Nat)} {i j a b : Nat} {p : List Nat} (hi : p.getD i 0 = a) (hj : p.getD j 0 = b) (ha : a < n) (r : RowsAt H D ps (rowsOf n chs i j)) :
    ∃ q, ps[a]? = some q ∧ H q = some (.lst (NL (goalsOf chs i j a))) ∧ RowsAt (upd H q (.lst (NL (goalsOf chs i j a) ++ [nV b]))) D ps (rowsOf n (chs ++ [p]) i j) := by
  have hl : ps.length = n := by rw [r.len, rowsOf_len]
  obtain ⟨q, hq⟩ := lt_get (xs := ps) (i := a) (by omega)
  have hr := r.row a q _ hq (rowsOf_get ha)
  have ap : ∀ k, goalsOf (chs ++ [p]) i j k = if k = a then goalsOf chs i j k ++ [b] else goalsOf chs i j k := fun k => by
    unfold goalsOf
    rw [List.filter_append, List.map_append]
    by_cases z : k = a
    · have hz : (p.getD i 0 == k) = true := by rw [hi, z]; exact beq_self_eq_true a
      rw [if_pos z, List.filter_cons, if_pos hz, List.filter_nil, List.map_cons, List.map_nil, hj]
    · have hz : ¬ (p.getD i 0 == k) = true := fun e => z ((beq_iff_eq.mp e).symm.trans hi)
      rw [if_neg z, List.filter_cons, if_neg hz, List.filter_nil, List.map_nil, List.append_nil]
  refine ⟨q, hq, hr, ?_, by rw [r.len, rowsOf_len, rowsOf_len], r.nd, r.out, fun k c s hc hs => ?_⟩
  · rw [upd_ne (fun z => r.out (by rw [z]; exact mem_get hq))]
    exact r.at_
  · have hk : k < n := by
      have := (List.getElem?_eq_some_iff.mp hc).1
      omega
    rw [rowsOf_get hk, ap] at hs
    by_cases z : k = a
    · subst z
      rw [if_pos rfl] at hs
      rw [hq] at hc
      cases hc
      cases hs
      rw [upd_same]
      unfold NL
      rw [List.map_append]
      rfl
    · rw [if_neg z] at hs
      have cq : c ≠ q := fun e => z (by
        have h1 := (List.getElem?_eq_some_iff.mp hc)
        have h2 := (List.getElem?_eq_some_iff.mp hq)
        obtain ⟨x1, y1⟩ := h1
        obtain ⟨x2, y2⟩ := h2
        exact (List.getElem_inj (h₀ := x1) (h₁ := x2) r.nd).mp (y1.trans (e.trans y2.symm)))
      rw [upd_ne cq]
      exact r.row k c _ hc ((rowsOf_get hk).trans hs)
end K24
set_option Elab.async false
set_option linter.all false
set_option maxRecDepth 100000
set_option maxHeartbeats 4000000
namespace K24
open PySem PySem.Spec PyProof.Rows L2
section
variable {P : Program} {w : World} {K : PySem.W.Frag} {mg : Str → Option Value}
theorem kTup_SN {H : Hp} {v : V} {ns : List Nat} {Q : VK} (h : SN H v ns) (q : ∀ u H', Same H H' → TN H' u ns → Q u H') : kTup K v H Q := by
  obtain ⟨k, a, rfl, ha⟩ := h
  cases k with
  | L => exact .inl ⟨a, _, rfl, SqL.of ha, fun p np => q _ _ (same_new np) ⟨p, rfl, upd_same⟩⟩
  | T => exact .inr ⟨a, _, rfl, SqT.of ha, q _ _ (Same.refl _) ⟨a, rfl, ha⟩⟩
theorem kTup_SK {α : Type} {R : Rl α} [SamR R] {H : Hp} {v : V} {xs : List α} {Q : VK} (h : SK R H v xs) (q : ∀ u H', Same H H' → Tp R H' u xs → Q u H') : kTup K v H Q := by
  obtain ⟨k, a, us, rfl, ha, p⟩ := h
  cases k with
  | L => exact .inl ⟨a, _, rfl, SqL.of ha, fun p' np => q _ _ (same_new np) ⟨p', us, rfl, upd_same, L2.Paired.mapP p fun _ _ z => SamR.mono (same_new np) z⟩⟩
  | T => exact .inr ⟨a, _, rfl, SqT.of ha, q _ _ (Same.refl _) ⟨a, us, rfl, ha, p⟩⟩
structure IsHouse (xs : List Nat) (cs ps : List (List Nat)) (D : HD) : Prop where
  sizes : D.sizes = xs
  st : IsSort cs D.standings
  ch : IsSort ps D.changes
  ah : D.ahead = rowsOf cs.length D.changes 0 1
  be : D.behind = rowsOf cs.length D.changes 1 0
structure Given (xs : List Nat) (cs ps : List (List Nat)) : Prop where
  l1 : 1 ≤ xs.length
  l6 : xs.length ≤ 6
  x36 : ∀ x ∈ xs, 1 ≤ x ∧ x ≤ 36
  ne : cs ≠ []
  nd : cs.Nodup
  fit : ∀ c ∈ cs, Fits xs c
  c64 : cs.length < 64
  ndp : ps.Nodup
  pair : ∀ p ∈ ps, ∃ x y, p = [x, y] ∧ x < cs.length ∧ y < cs.length ∧ x ≠ y
  p64 : ps.length < 64
theorem fits_bd {xs c : List Nat} (hf : Fits xs c) (h : ∀ x ∈ xs, x ≤ 36) : ∀ y ∈ c, y < 64 := fun y hy => by
  obtain ⟨i, hi, e⟩ := List.getElem_of_mem hy
  have h1 : c[i]? = some y := by rw [← e]; simp [hi]
  obtain ⟨x, hx⟩ := lt_get (xs := xs) (i := i) (by rw [← hf.1]; exact hi)
  have h2 := hf.2 i x y hx h1
  have h3 := h x (mem_get hx)
  omega
/-- tuple(sorted([tuple(x) for x in xs])) -/
theorem sorted_rows {H : Hp} {v : V} {cs : List (List Nat)} {d : Nat} {σ : L2.St} {i j : Nat} {Q : VK} (hv : σ[i]? = some (some v)) (hw : ∀ x, wipe ((wipe σ [j]).set j (some x)) [j] = wipe σ [j]) (hj : ∀ x, ((wipe σ [j]).set j (some x))[j]? = some (some x)) (h : SK TN H v cs) (hd : 1 ≤ d) (h64 : cs.length < 64) (hc : ∀ c ∈ cs, c.length = d ∧ ∀ y ∈ c, y < 64)
    (q : ∀ u H' st, Same H H' → TTN H' u st → IsSort cs st → Q u H') : tThen (tCB (rSortTA K) (tCons (tLc (iSeq K (tVar i)) (gName j) tYes (tThen (tVar j) (kTup K)) [j]) tNil)) (kTup K) σ H Q := by
  obtain ⟨l, b, us, rfl, hb, hp⟩ := h
  have hul := Paired.len hp
  refine ⟨_, hv, b, us, l, rfl, sq_of hb, ?_⟩
  intro D nD
  refine lc_map nD (iw_seq (p := j)) (fun i => hw _) (by omega) (fun H2 s2 => sq_of (s2 _ _ hb)) (fun i _ y => y = us.getD i .non) (fun _ _ _ _ _ h => h) (fun i H2 hi s2 Qk hk => ?_) (fun H2 ys s2 e2 l2 r2 => ?_)
  · obtain ⟨u, hu⟩ := lt_get hi
    obtain ⟨c, hcc, t, rfl, ht⟩ := Paired.get' hp hu
    rw [get_getD hu] at hk ⊢
    exact ⟨_, hj _, .inr ⟨t, _, rfl, SqT.of (s2 _ _ ht), hk _ _ (Same.refl _) rfl⟩⟩
  · have ey : ys = us := by
      apply List.ext_getElem (by omega)
      intro i h1 h2
      rw [r2 i ys[i] (by simp [h1])]
      exact get_getD (by simp [h2])
    subst ey
    have hp2 : Paired (TN H2) ys cs := L2.Paired.mapP hp fun _ _ z => SamR.mono s2 z
    refine ⟨d, 64, hd, D, ys, rfl, SqL.of e2, by omega, fun x hx => ?_, fun zs p perm pw np => ?_⟩
    · obtain ⟨ns, h1, h2⟩ := paired_tn hp2 x hx
      obtain ⟨h3, h4⟩ := hc ns h1
      exact ⟨toI ns, tupI h2, by unfold toI; rw [List.length_map]; exact h3, bd_toI h4⟩
    · obtain ⟨st, hst, iss⟩ := sort_data hp2 perm pw
      have s3 := same_new (o := .lst zs) np
      refine .inl ⟨p, zs, rfl, SqL.of upd_same, fun r nr => ?_⟩
      have s4 := s3.trans (same_new (o := .tup zs) nr)
      exact q _ _ st (s2.trans s4) ⟨r, zs, rfl, upd_same, L2.Paired.mapP hst fun _ _ z => SamR.mono s4 z⟩ iss
/-- tuple([tuple(row) for row in rows]) -/
theorem tuple_rows {H : Hp} {D0 : Addr} {ps : List Addr} {rows : List (List Nat)} {σ : L2.St} {i j : Nat} {Q : VK} (hv : σ[i]? = some (some (.ref D0))) (hw : ∀ x, wipe ((wipe σ [j]).set j (some x)) [j] = wipe σ [j]) (hj : ∀ x, ((wipe σ [j]).set j (some x))[j]? = some (some x)) (h : RowsAt H D0 ps rows) (hn : rows.length ≤ 1000)
    (q : ∀ u H', Same H H' → TTN H' u rows → Q u H') : tThen (tLc (iSeq K (tVar i)) (gName j) tYes (tThen (tVar j) (kTup K)) [j]) (kTup K) σ H Q := by
  refine ⟨_, hv, D0, ps.map V.ref, .L, rfl, SqL.of h.at_, ?_⟩
  intro D nD
  have hl := h.len
  refine lc_map nD (iw_seq (k := .L) (p := j)) (fun i => hw _) (by rw [List.length_map]; omega) (fun H2 s2 => SqL.of (s2 _ _ h.at_)) (fun i H y => TN H y (rows.getD i [])) (fun _ _ _ _ s h => ImmR.mono s h) (fun i H2 hi s2 Qk hk => ?_) (fun H2 ys s2 e2 l2 r2 => ?_)
  · rw [List.length_map] at hi
    obtain ⟨p, hp⟩ := lt_get hi
    obtain ⟨r, hr⟩ := lt_get (xs := rows) (i := i) (by omega)
    have e1 : (ps.map V.ref).getD i .non = .ref p := get_getD (by rw [List.getElem?_map, hp]; rfl)
    have e2 : rows.getD i [] = r := by rw [List.getD_eq_getElem?_getD, hr]; rfl
    rw [e2] at hk
    rw [e1]
    exact ⟨_, hj _, kTup_SN ⟨.L, p, rfl, s2 _ _ (h.row i p r hp hr)⟩ fun u H' s' tn => hk u H' s' tn⟩
  · rw [List.length_map] at l2
    have pr : Paired (TN H2) ys rows := Paired.of_get (by omega) fun i x y hx hy => by
      have := r2 i x hx
      rwa [show rows.getD i [] = y by rw [List.getD_eq_getElem?_getD, hy]; rfl] at this
    exact .inl ⟨D, ys, rfl, SqL.of e2, fun p np => q _ _ (s2.trans (same_new np)) ⟨p, ys, rfl, upd_same, L2.Paired.mapP pr fun _ _ z => SamR.mono (same_new np) z⟩⟩
end
end K24
set_option Elab.async false
set_option linter.all false
set_option maxRecDepth 100000
set_option maxHeartbeats 4000000
namespace K24
open PySem PySem.Spec PyProof.Rows L2
section
variable {P : Program} {w : World} {K : PySem.W.Frag} {mg : Str → Option Value}
theorem goalsOf_len (chs : List (List Nat)) (i j k : Nat) : (goalsOf chs i j k).length ≤ chs.length := by
  unfold goalsOf
  rw [List.length_map]
  exact List.length_filter_le _ _
def sp_Houseinit (K : PySem.W.Frag) : Sp := S4 fun v s t c H Q _ => ∃ x dx xs cs ps, v = .ref x ∧ H x = some (.ins (cH K) dx []) ∧ SN H s xs ∧ SK TN H t cs ∧ SK TN H c ps ∧ Given xs cs ps ∧
  ∀ H' D, SmX x H H' → HS K H' (.ref x) D → IsHouse xs cs ps D → Q .non H'
theorem rd_Houseinit (G : Gs K mg) {vs : List V} {H : Hp} {Q : VK} {E : XK} (h : sp_Houseinit K vs H Q E) : t_Houseinit P w K sp_wrong_size sp_wrong_standing sp_wrong_change sp_is_sequence (Dn Q) (start N_Houseinit vs) H := by
  obtain ⟨v, s, t, c, rfl, x, dx, xs, cs, ps, rfl, hx, hs, ht, hc, g, q⟩ := h
  have hs0 := hs
  have ht0 := ht
  have hc0 := hc
  obtain ⟨k, a, rfl, ha⟩ := hs
  obtain ⟨l, b, us, rfl, hb, hp⟩ := ht
  obtain ⟨m, d, ws, rfl, hd, hq⟩ := hc
  have hul := Paired.len hp
  -- the checks
  refine ⟨_, rfl, _, rfl, xs, hs0, g.l1, g.l6, g.x36, fun H1 s1 => ?_⟩
  refine ⟨_, rfl, rfl, _, rfl, if_f (by simp) ?_⟩
  refine ⟨_, rfl, rfl, _, rfl, if_f (by simp) ?_⟩
  refine ⟨_, rfl, _, rfl, true, seq_of (s1 _ _ hb), fun H2 s2 => ⟨true, rfl, if_t rfl ⟨_, rfl, _, _, rfl, sqs_of (s2 _ _ (s1 _ _ hb)), _, _, rfl, rfl, _, rfl, if_f (decide_eq_false (by have := g.c64; omega)) ?_⟩⟩⟩
  have t2 := s1.trans s2
  refine ⟨_, rfl, _, rfl, _, _, rfl, xs, cs, SamR.mono t2 hs0, SamR.mono t2 ht0, g.ne, g.nd, g.fit, g.l6, by have := g.c64; omega, fun H3 s3 => ?_⟩
  have t3 := t2.trans s3
  refine ⟨_, rfl, rfl, _, rfl, if_f (by simp) ?_⟩
  refine ⟨_, rfl, _, _, rfl, sqs_of (t3 _ _ hb), _, rfl, _, _, rfl, cs.length, ps, by rw [hul], SamR.mono t3 hc0, g.ndp, g.pair, by have := g.p64; omega, fun H4 s4 => ?_⟩
  have t4 := t3.trans s4
  refine ⟨_, rfl, rfl, _, rfl, if_f (by simp) ?_⟩
  -- sizes
  refine ⟨_, rfl, kTup_SN (SamR.mono t4 hs0) fun u1 H5 s5 tn5 => ?_⟩
  have t5 := t4.trans s5
  refine ⟨_, rfl, x, _, dx, _, rfl, t5 _ _ hx, G.cls, G.n_sizes, (by show 0 < 1000; omega), ?_⟩
  -- standings
  have bx : b ≠ x := ne_of hb hx (by cases l <;> exact fun z => nomatch z)
  have dx' : d ≠ x := ne_of hd hx (by cases m <;> exact fun z => nomatch z)
  have fx : ∀ {fs : List (Str × V)}, upd H5 x (.ins (cH K) dx fs) x = some (.ins (cH K) dx fs) := upd_same
  have X6 : SmX x H (upd H5 x (.ins (cH K) dx (putF "sizes" u1 []))) := (smx t5).trans smx_upd
  have T6 : SmT H (upd H5 x (.ins (cH K) dx (putF "sizes" u1 []))) := (smT t5).trans (smT_upd (t5 _ _ hx) fun xs z => nomatch z)
  have tn6 : TN (upd H5 x (.ins (cH K) dx (putF "sizes" u1 []))) u1 xs := tn_T (smT_upd (t5 _ _ hx) fun xs z => nomatch z) tn5
  have i6 : upd H5 x (.ins (cH K) dx (putF "sizes" u1 [])) x = some (.ins (cH K) dx (putF "sizes" u1 [])) := upd_same
  generalize upd H5 x (.ins (cH K) dx (putF "sizes" u1 [])) = H6 at X6 T6 tn6 i6 ⊢
  have ht6 : SK TN H6 (.ref b) cs := ⟨l, b, us, rfl, X6 _ _ bx hb, L2.Paired.mapP hp fun _ _ z => tn_T T6 z⟩
  have hc6 : SK TN H6 (.ref d) ps := ⟨m, d, ws, rfl, X6 _ _ dx' hd, L2.Paired.mapP hq fun _ _ z => tn_T T6 z⟩
  refine sorted_rows (i := 2) (j := 9) rfl (fun _ => rfl) (fun _ => rfl) ht6 g.l1 g.c64 (fun c hc => ⟨(g.fit c hc).1, fits_bd (g.fit c hc) fun y hy => (g.x36 y hy).2⟩) fun u2 H7 st s7 tn7 is7 => ?_
  refine ⟨_, rfl, x, _, dx, _, rfl, s7 _ _ i6, G.cls, G.n_standings, (by show 1 < 1000; omega), ?_⟩
  have T8 : SmT H7 (upd H7 x (.ins (cH K) dx (putF "standings" u2 (putF "sizes" u1 [])))) := smT_upd (s7 _ _ i6) fun xs z => nomatch z
  have X8 : SmX x H (upd H7 x (.ins (cH K) dx (putF "standings" u2 (putF "sizes" u1 [])))) := (X6.trans (smx s7)).trans smx_upd
  have tnA : TN (upd H7 x (.ins (cH K) dx (putF "standings" u2 (putF "sizes" u1 [])))) u1 xs := tn_T ((smT s7).trans T8) tn6
  have tnB : TTN (upd H7 x (.ins (cH K) dx (putF "standings" u2 (putF "sizes" u1 [])))) u2 st := ttn_T T8 tn7
  have i8 : upd H7 x (.ins (cH K) dx (putF "standings" u2 (putF "sizes" u1 []))) x = some (.ins (cH K) dx (putF "standings" u2 (putF "sizes" u1 []))) := upd_same
  have TT8 := (T6.trans (smT s7)).trans T8
  generalize upd H7 x (.ins (cH K) dx (putF "standings" u2 (putF "sizes" u1 []))) = H8 at X8 T8 TT8 tnA tnB i8 ⊢
  have hc8 : SK TN H8 (.ref d) ps := ⟨m, d, ws, rfl, X8 _ _ dx' hd, L2.Paired.mapP hq fun _ _ z => tn_T TT8 z⟩
  -- changes
  refine sorted_rows (i := 3) (j := 10) (d := 2) rfl (fun _ => rfl) (fun _ => rfl) hc8 (by omega) g.p64 (fun p hp => ?_) fun u3 H9 ch s9 tn9 is9 => ?_
  · obtain ⟨y, z, rfl, hy, hz, _⟩ := g.pair p hp
    have := g.c64
    exact ⟨rfl, fun n hn => by simp at hn; omega⟩
  refine ⟨_, rfl, x, _, dx, _, rfl, s9 _ _ i8, G.cls, G.n_changes, (by show 2 < 1000; omega), ?_⟩
  have T10 : SmT H9 (upd H9 x (.ins (cH K) dx (putF "changes" u3 (putF "standings" u2 (putF "sizes" u1 []))))) := smT_upd (s9 _ _ i8) fun xs z => nomatch z
  have X10 : SmX x H (upd H9 x (.ins (cH K) dx (putF "changes" u3 (putF "standings" u2 (putF "sizes" u1 []))))) := (X8.trans (smx s9)).trans smx_upd
  have tnA2 := tn_T ((smT s9).trans T10) tnA
  have tnB2 := ttn_T ((smT s9).trans T10) tnB
  have tnC2 := ttn_T T10 tn9
  have i10 : upd H9 x (.ins (cH K) dx (putF "changes" u3 (putF "standings" u2 (putF "sizes" u1 [])))) x = some (.ins (cH K) dx (putF "changes" u3 (putF "standings" u2 (putF "sizes" u1 [])))) := upd_same
  generalize upd H9 x (.ins (cH K) dx (putF "changes" u3 (putF "standings" u2 (putF "sizes" u1 [])))) = H10 at X10 T10 tnA2 tnB2 tnC2 i10 ⊢
  clear tnA tnB T10 T8 TT8 T6 tn6 tn5 tn7 tn9 hc8 hc6 ht6
  have hb10 : H10 b = some (l.ho us) := X10 _ _ bx hb
  -- ahead, behind
  refine ⟨_, rfl, b, us, l, rfl, sq_of hb10, ?_⟩
  intro DA nDA
  refine lc_rows nDA (iw_seq (p := 9)) (fun _ => rfl) (by have := g.c64; omega) (fun H2 s2 => sq_of (s2 _ _ hb10)) fun H11 pa s11 ra fa => ?_
  refine ⟨_, rfl, b, us, l, rfl, sq_of (s11 _ _ hb10), ?_⟩
  intro DB nDB
  refine lc_rows nDB (iw_seq (p := 9)) (fun _ => rfl) (by have := g.c64; omega) (fun H2 s2 => sq_of (s2 _ _ (s11 _ _ hb10))) fun H12 pb s12 rb fb => ?_
  rw [hul] at ra rb
  have fb0 : ∀ p ∈ pb, H10 p = none := fun p hp => same_none s11 (fb p hp)
  have nDB0 : H10 DB = none := same_none s11 nDB
  have pab : ∀ p ∈ pa, ∀ q ∈ pb, p ≠ q := fun p hp r hr => by
    obtain ⟨j, hj, e⟩ := List.getElem_of_mem hp
    have h1 : pa[j]? = some p := by rw [← e]; simp [hj]
    have h2 := ra.len
    obtain ⟨z, hz⟩ := lt_get (xs := List.replicate cs.length ([] : List Nat)) (i := j) (by omega)
    exact ne_of_none (ra.row j p z h1 hz) (fb r hr)
  have DAb : DA ∉ pb := fun hp => ne_of_none ra.at_ (fb DA hp) rfl
  have DBa : DB ∉ pa := fun hp => by
    obtain ⟨j, hj, e⟩ := List.getElem_of_mem hp
    have h1 : pa[j]? = some DB := by rw [← e]; simp [hj]
    have h2 := ra.len
    obtain ⟨z, hz⟩ := lt_get (xs := List.replicate cs.length ([] : List Nat)) (i := j) (by omega)
    exact ne_of_none (ra.row j DB z h1 hz) nDB rfl
  refine ⟨_, _, rfl, ?_⟩
  -- the loop
  have lk : List.lookup ("changes" : Str) (putF "changes" u3 (putF "standings" u2 (putF "sizes" u1 []))) = some u3 := by rw [lookup_putF, if_pos rfl]
  obtain ⟨e, vs3, rfl, he, hp3⟩ := tnC2
  refine ⟨_, rfl, x, _, dx, _, .ref e, rfl, s12 _ _ (s11 _ _ i10), G.cls, G.n_changes, lk, e, vs3, .T, rfl, SqT.of (s12 _ _ (s11 _ _ he)), ?_⟩
  have hl3 := Paired.len hp3
  have iw : Iw (ItS K e .T) (gTup K 2 (gCons (gName 7) (gCons (gName 8) gNil))) vs3.length (fun i σ => (σ.set 7 (some (nV ((ch.getD i []).getD 0 0)))).set 8 (some (nV ((ch.getD i []).getD 1 0)))) (fun H' => Same H10 H') := by
    refine ⟨fun i H' hi s => ⟨vs3, vs3[i], SqT.of (s _ _ he), by simp [hi]⟩, fun H' s => ⟨vs3, SqT.of (s _ _ he), Nat.le_refl _⟩, fun i σ H' z H'' hi s y k hk => ?_⟩
    obtain ⟨e1, y⟩ := y
    subst e1
    have hy := y vs3 (SqT.of (s _ _ he))
    obtain ⟨p, hpp, r, rfl, hr⟩ := Paired.get' hp3 hy
    have hm : p ∈ ps := is9.perm.mem_iff.mp (mem_get hpp)
    obtain ⟨n1, n2, rfl, _⟩ := g.pair p hm
    have eg : ch.getD i [] = [n1, n2] := by rw [List.getD_eq_getElem?_getD, hpp]; rfl
    rw [eg] at hk
    exact ⟨r, NL [n1, n2], rfl, SqT.of (s _ _ hr), rfl, _, _, rfl, _, _, rfl, rfl, hk _ (Same.refl _)⟩
  refine for_go iw (fun i σ H' => ∃ o7 o8, σ = [some (.ref x), some (.ref a), some (.ref b), some (.ref d), some .non, some (.ref DA), some (.ref DB), o7, o8, none, none, none] ∧ Same H10 H' ∧ RowsAt H' DA pa (rowsOf cs.length (ch.take i) 0 1) ∧ RowsAt H' DB pb (rowsOf cs.length (ch.take i) 1 0))
    ⟨_, _, rfl, s11.trans s12, by rw [List.take_zero, rowsOf_nil]; exact ra.same s12, by rw [List.take_zero, rowsOf_nil]; exact rb⟩ (fun i σ H' _ ⟨_, _, _, s, _⟩ => s) (fun i σ H13 H14 hi ⟨o7, o8, e1, s13, r1, r2⟩ s14 => ?_) (fun σ H13 ⟨o7, o8, e1, s13, r1, r2⟩ => ?_)
  · subst e1
    obtain ⟨p, hpp⟩ := lt_get (xs := ch) (i := i) (by omega)
    have hm : p ∈ ps := is9.perm.mem_iff.mp (mem_get hpp)
    obtain ⟨n1, n2, rfl, h1, h2, _⟩ := g.pair p hm
    have eg : ch.getD i [] = [n1, n2] := by rw [List.getD_eq_getElem?_getD, hpp]; rfl
    rw [eg]
    have tk : ch.take (i + 1) = ch.take i ++ [[n1, n2]] := by rw [List.take_succ, hpp]; rfl
    have r1' := r1.same s14
    have r2' := r2.same s14
    obtain ⟨qa, hqa, hra, ra2⟩ := rows_append (p := [n1, n2]) rfl rfl h1 r1'
    -- ahead[start].append(goal)
    refine ⟨_, rfl, _, rfl, DA, _, _, .ref qa, rfl, rfl, SqL.of r1'.at_, atI_nat (by rw [List.getElem?_map, hqa]; rfl), .inl ⟨rfl, _, SqL.of hra⟩, _, rfl, qa, _, _, rfl, rfl, hra, ?_, ?_⟩
    · rw [nl_len]
      have z1 := goalsOf_len (ch.take i) 0 1 n1
      have z2 : (ch.take i).length ≤ i := List.length_take_le _ _
      have z3 := is9.perm.length_eq
      have z4 := g.p64
      have z5 : (goalsOf (ch.take i) 0 1 n1).length ≤ 1000 := by omega
      exact Nat.lt_of_le_of_lt z5 (by decide)
    have qab : ∀ q ∈ pb, q ≠ qa := fun q hq z => pab qa (mem_get hqa) q hq z.symm
    have r2a : RowsAt (upd H14 qa (.lst (NL (goalsOf (ch.take i) 0 1 n1) ++ [nV n2]))) DB pb (rowsOf cs.length (ch.take i) 1 0) := by
      refine ⟨?_, r2'.len, r2'.nd, r2'.out, fun j p r hp hr => ?_⟩
      · rw [upd_ne (fun z => DBa (by rw [z]; exact mem_get hqa))]
        exact r2'.at_
      · rw [upd_ne (qab p (mem_get hp))]
        exact r2'.row j p r hp hr
    obtain ⟨qb, hqb, hrb, rb2⟩ := rows_append (p := [n1, n2]) rfl rfl h2 r2a
    refine ⟨_, rfl, _, rfl, DB, _, _, .ref qb, rfl, rfl, SqL.of r2a.at_, atI_nat (by rw [List.getElem?_map, hqb]; rfl), .inl ⟨rfl, _, SqL.of hrb⟩, _, rfl, qb, _, _, rfl, rfl, hrb, ?_, ?_⟩
    · rw [nl_len]
      have z1 := goalsOf_len (ch.take i) 1 0 n2
      have z2 : (ch.take i).length ≤ i := List.length_take_le _ _
      have z3 := is9.perm.length_eq
      have z4 := g.p64
      have z5 : (goalsOf (ch.take i) 1 0 n2).length ≤ 1000 := by omega
      exact Nat.lt_of_le_of_lt z5 (by decide)
    rw [tk]
    refine ⟨_, _, rfl, ?_, ?_, rb2⟩
    · refine same_out (same_out (s13.trans s14) (fa qa (mem_get hqa))) (fb0 qb (mem_get hqb))
    · refine ⟨?_, ra2.len, ra2.nd, ra2.out, fun j p r hp hr => ?_⟩
      · rw [upd_ne (fun z => DAb (by rw [z]; exact mem_get hqb))]
        exact ra2.at_
      · rw [upd_ne (fun z => pab p (mem_get hp) qb (mem_get hqb) z)]
        exact ra2.row j p r hp hr
  · subst e1
    have hlc : vs3.length = ch.length := hl3
    rw [hlc, List.take_length] at r1 r2
    refine tuple_rows (i := 5) (j := 11) rfl (fun _ => rfl) (fun _ => rfl) r1 (by rw [rowsOf_len]; have := g.c64; omega) fun u4 H15 s15 tn15 => ?_
    have ix15 := (s13.trans s15) _ _ i10
    refine ⟨_, rfl, x, _, dx, _, rfl, ix15, G.cls, G.n_ahead, (by show 3 < 1000; omega), ?_⟩
    have r2b : RowsAt (upd H15 x (.ins (cH K) dx (putF "ahead" u4 (putF "changes" (.ref e) (putF "standings" u2 (putF "sizes" u1 [])))))) DB pb (rowsOf cs.length ch 1 0) := by
      have r2c := r2.same s15
      refine ⟨?_, r2c.len, r2c.nd, r2c.out, fun j p r hp hr => ?_⟩
      · rw [upd_ne (ne_of r2c.at_ ix15 (fun z => nomatch z))]
        exact r2c.at_
      · have := r2c.row j p r hp hr
        rw [upd_ne (ne_of this ix15 (fun z => nomatch z))]
        exact this
    have T16 : SmT H15 (upd H15 x (.ins (cH K) dx (putF "ahead" u4 (putF "changes" (.ref e) (putF "standings" u2 (putF "sizes" u1 [])))))) := smT_upd ix15 fun xs z => nomatch z
    have X16 : SmX x H15 (upd H15 x (.ins (cH K) dx (putF "ahead" u4 (putF "changes" (.ref e) (putF "standings" u2 (putF "sizes" u1 [])))))) := smx_upd
    have i16 : upd H15 x (.ins (cH K) dx (putF "ahead" u4 (putF "changes" (.ref e) (putF "standings" u2 (putF "sizes" u1 []))))) x = some (.ins (cH K) dx (putF "ahead" u4 (putF "changes" (.ref e) (putF "standings" u2 (putF "sizes" u1 []))))) := upd_same
    generalize upd H15 x (.ins (cH K) dx (putF "ahead" u4 (putF "changes" (.ref e) (putF "standings" u2 (putF "sizes" u1 []))))) = H16 at r2b T16 X16 i16 ⊢
    refine tuple_rows (i := 6) (j := 11) rfl (fun _ => rfl) (fun _ => rfl) r2b (by rw [rowsOf_len]; have := g.c64; omega) fun u5 H17 s17 tn17 => ?_
    have ix17 := s17 _ _ i16
    refine ⟨_, rfl, x, _, dx, _, rfl, ix17, G.cls, G.n_behind, (by show 4 < 1000; omega), ?_⟩
    have T18 : SmT H17 (upd H17 x (.ins (cH K) dx (putF "behind" u5 (putF "ahead" u4 (putF "changes" (.ref e) (putF "standings" u2 (putF "sizes" u1 []))))))) := smT_upd ix17 fun xs z => nomatch z
    have TA : SmT H10 (upd H17 x (.ins (cH K) dx (putF "behind" u5 (putF "ahead" u4 (putF "changes" (.ref e) (putF "standings" u2 (putF "sizes" u1 []))))))) := ((((smT (s13.trans s15)).trans T16).trans (smT s17))).trans T18
    refine q _ ⟨xs, st, ch, rowsOf cs.length ch 0 1, rowsOf cs.length ch 1 0⟩ ((((X10.trans (smx (s13.trans s15))).trans X16).trans (smx s17)).trans smx_upd) ?_ ⟨rfl, is7, is9, rfl, rfl⟩
    refine ⟨x, dx, _, u1, u2, .ref e, u4, u5, rfl, upd_same, ?_, tn_T TA tnA2, ?_, ttn_T TA tnB2, ?_, ttn_T TA ⟨e, vs3, rfl, he, hp3⟩, ?_, ttn_T ((T16.trans (smT s17)).trans T18) tn15, ?_, ttn_T T18 tn17⟩
    · rw [lookup_putF, if_neg (by decide), lookup_putF, if_neg (by decide), lookup_putF, if_neg (by decide), lookup_putF, if_neg (by decide), lookup_putF, if_pos rfl]
    · rw [lookup_putF, if_neg (by decide), lookup_putF, if_neg (by decide), lookup_putF, if_neg (by decide), lookup_putF, if_pos rfl]
    · rw [lookup_putF, if_neg (by decide), lookup_putF, if_neg (by decide), lookup_putF, if_pos rfl]
    · rw [lookup_putF, if_neg (by decide), lookup_putF, if_pos rfl]
    · rw [lookup_putF, if_pos rfl]
end
end K24
set_option Elab.async false
set_option linter.all false
set_option maxRecDepth 100000
set_option maxHeartbeats 4000000
namespace K24
open PySem PySem.Spec PyProof.Rows L2
/-! ### a House as the told words make it, as far as the looks ask -/
structure Gd (D : HD) (n : Nat) : Prop where
  n1 : 1 ≤ n
  n6 : n ≤ 6
  sz : D.sizes.length = n
  ne : D.standings ≠ []
  l64 : D.standings.length < 64
  row : ∀ st ∈ D.standings, st.length = n ∧ ∀ x ∈ st, x < 64
  zero : ∀ c, c < n → ∃ st ∈ D.standings, st.getD c 0 = 0
  ah : D.ahead.length = D.standings.length
  ahl : ∀ r ∈ D.ahead, r.length ≤ 63 ∧ ∀ x ∈ r, x < D.standings.length
def cellv (n : Nat) : List (List Nat) := (List.range n).map fun c => [c]
theorem cellv_len (n : Nat) : (cellv n).length = n := by unfold cellv; simp
theorem cellv_get {n c : Nat} (h : c < n) : (cellv n)[c]? = some [c] := by unfold cellv; rw [List.getElem?_map, List.getElem?_range h]; rfl
theorem sel_eq {α : Type} (l : List α) (d : α) (g : α → Bool) (h : α → V) : ((List.range l.length).filter fun i => g (l.getD i d)).map (fun i => h (l.getD i d)) = (l.filter g).map h := by
  have e : (List.range l.length).map (fun i => l.getD i d) = l := by
    apply List.ext_getElem
    · simp
    · intro i h1 h2
      simp only [List.getElem_map, List.getElem_range]
      rw [List.getD_eq_getElem?_getD, List.getElem?_eq_getElem h2]
      rfl
  have e2 : ((List.range l.length).filter fun i => g (l.getD i d)).map (fun i => h (l.getD i d)) = (((List.range l.length).map fun i => l.getD i d).filter g).map h := by
    rw [List.filter_map, List.map_map]
    rfl
  rw [e2, e]
section
variable {P : Program} {w : World} {K : PySem.W.Frag} {mg : Str → Option Value}
def sp_need_question (K : PySem.W.Frag) : Sp := S2 fun h v H Q _ => ∃ D qs, HS K H h D ∧ TN H v qs ∧ qs.length = D.standings.length ∧ D.standings.length ≤ 63 ∧ ∀ H', Same H H' → Q v H'
theorem rd_need_question {vs : List V} {H : Hp} {Q : VK} {E : XK} (h : sp_need_question K vs H Q E) : t_need_question P w K (sp_need_house K) sp_is_sequence sp_is_number (sp_Houselen K) (Dn Q) (start N_need_question vs) H := by
  obtain ⟨u, v, rfl, D, qs, hh, hv, hl, h63, q⟩ := h
  have hv0 := hv
  obtain ⟨b, rfl, hb⟩ := hv
  refine ⟨_, rfl, _, rfl, hh.is, ?_⟩
  refine ⟨_, rfl, _, rfl, true, seq_of (k := .T) hb, fun H1 s1 => ⟨true, rfl, if_f rfl ?_⟩⟩
  obtain ⟨a, dx, fs, s, t, c, ah, be, rfl, h1, hr⟩ := id hh
  refine ⟨_, rfl, _, _, rfl, .inr (SqT.of (s1 _ _ hb)), _, rfl, a, dx, fs, rfl, s1 _ _ h1, _, rfl, D, SamR.mono s1 hh, _, rfl, by omega, by omega, rfl, _, rfl, if_f (by rw [nl_len, hl]; simp) ?_⟩
  refine ⟨_, rfl, b, NL qs, .T, rfl, SqT.of (s1 _ _ hb), ?_⟩
  refine for_go (iw_enum (k := .T) (p := 2) (q := 3)) (fun i σ H' => ∃ o1 o2, σ = [some (.ref a), some (.ref b), o1, o2] ∧ Same H H') ⟨_, _, rfl, s1⟩ (fun i σ H' _ ⟨_, _, _, s⟩ => SqT.of (s _ _ hb)) (fun i σ H2 H3 hi ⟨o1, o2, e, s⟩ s' => ?_) (fun σ H' ⟨_, _, e, s⟩ => ?_)
  · subst e
    rw [nl_len] at hi
    rw [nl_getD hi]
    exact ⟨_, rfl, _, rfl, .inl ⟨_, rfl, _, rfl, if_f (by simp) ⟨_, _, rfl, s.trans s'⟩⟩⟩
  · subst e
    exact ⟨_, rfl, .inr ⟨b, _, rfl, SqT.of (s _ _ hb), q _ s⟩⟩
def sp_is_window (K : PySem.W.Frag) : Sp := S2 fun h v H Q _ => ∃ D c, HS K H h D ∧ TN H v [c] ∧ c < D.sizes.length ∧ ∀ H', Same H H' → Q (.bl true) H'
theorem rd_is_window (G : Gs K mg) {vs : List V} {H : Hp} {Q : VK} {E : XK} (h : sp_is_window K vs H Q E) : t_is_window P w K sp_is_sequence sp_is_number (Dn Q) (start N_is_window vs) H := by
  obtain ⟨u, v, rfl, D, c, hh, ⟨b, rfl, hb⟩, hc, q⟩ := h
  obtain ⟨a, dx, fs, s, t, ch, ah, be, rfl, h1, h2, ⟨bs, rfl, hbs⟩, hr⟩ := id hh
  refine ⟨_, rfl, _, rfl, true, seq_of (k := .T) hb, fun H1 s1 => ⟨true, rfl, if_f rfl ?_⟩⟩
  refine ⟨_, rfl, _, _, rfl, .inr (SqT.of (s1 _ _ hb)), rfl, _, rfl, if_f (decide_eq_false fun z => by have := V.int.inj z; rw [nl_len] at this; simp at this) ?_⟩
  refine ⟨_, rfl, b, NL [c], .T, rfl, SqT.of (s1 _ _ hb), ?_⟩
  refine for_go (iw_enum (k := .T) (p := 2) (q := 3)) (fun i σ H' => ∃ o1 o2, σ = [some (.ref a), some (.ref b), o1, o2] ∧ Same H H') ⟨_, _, rfl, s1⟩ (fun i σ H' _ ⟨_, _, _, s⟩ => SqT.of (s _ _ hb)) (fun i σ H2 H3 hi ⟨o1, o2, e, s⟩ s' => ?_) (fun σ H' ⟨_, _, e, s⟩ => ?_)
  · subst e
    rw [nl_len] at hi
    have hi0 : i = 0 := by simpa using hi
    subst hi0
    rw [nl_getD (ns := [c]) (i := 0) (by simp)]
    have s3 := s.trans s'
    refine ⟨_, rfl, _, rfl, .inl ⟨_, rfl, _, rfl, if_f (by simp) ?_⟩⟩
    refine ⟨_, rfl, _, rfl, a, _, dx, fs, _, rfl, s3 _ _ h1, G.cls, G.n_sizes, h2, _, _, rfl, .inr (SqT.of (s3 _ _ hbs)), _, _, rfl, rfl, _, rfl, if_f (decide_eq_false (by rw [nl_len]; simp; omega)) ?_⟩
    exact ⟨_, rfl, _, _, rfl, rfl, _, rfl, if_f (by simp) (if_f rfl ⟨_, _, rfl, s3⟩)⟩
  · subst e
    exact q _ s
def sp_need_view (K : PySem.W.Frag) : Sp := S2 fun h v H Q _ => ∃ D n, HS K H h D ∧ TTN H v (cellv n) ∧ n = D.sizes.length ∧ 1 ≤ n ∧ n ≤ 6 ∧ ∀ u H', Same H H' → TTN H' u (cellv n) → Q u H'
theorem rd_need_view {vs : List V} {H : Hp} {Q : VK} {E : XK} (h : sp_need_view K vs H Q E) : t_need_view P w K (sp_need_house K) sp_is_sequence (sp_is_window K) (Dn Q) (start N_need_view vs) H := by
  obtain ⟨u, v, rfl, D, n, hh, ⟨b, us, rfl, hb, hp⟩, hn, h1, h6, q⟩ := h
  have hul : us.length = n := by rw [Paired.len hp, cellv_len]
  refine ⟨_, rfl, _, rfl, hh.is, ?_⟩
  refine ⟨_, rfl, _, rfl, true, seq_of (k := .T) hb, fun H1 s1 => ⟨true, rfl, if_f rfl ?_⟩⟩
  refine ⟨_, rfl, _, _, rfl, .inr (SqT.of (s1 _ _ hb)), rfl, _, rfl, if_f (decide_eq_false fun z => by have := V.int.inj z; omega) ?_⟩
  refine ⟨Nat.zero_le _, fun l nl => ?_⟩
  have s2 := s1.trans (same_new (o := .lst []) nl)
  have nl0 : H l = none := s1.free nl
  refine ⟨_, rfl, b, us, .T, rfl, SqT.of (s2 _ _ hb), ?_⟩
  refine for_go (iw_enum (k := .T) (p := 3) (q := 4)) (fun i σ H' => ∃ o1 o2, σ = [some u, some (.ref b), some (.ref l), o1, o2] ∧ Same H H' ∧ H' l = some (.lst (us.take i))) ⟨_, _, rfl, s2, upd_same⟩ (fun i σ H' _ ⟨_, _, _, s, _⟩ => SqT.of (s _ _ hb)) (fun i σ H2 H3 hi ⟨o1, o2, e, s, el⟩ s' => ?_) (fun σ H' ⟨_, _, e, s, el⟩ => ?_)
  · subst e
    obtain ⟨x, hx⟩ := lt_get hi
    obtain ⟨c, hc, t, rfl, ht⟩ := Paired.get' hp hx
    rw [get_getD hx]
    have s3 := s.trans s'
    have hci : c = [i] := by
      rw [cellv_get (by omega)] at hc
      exact (Option.some.inj hc).symm
    subst hci
    refine ⟨_, rfl, _, rfl, _, _, rfl, D, i, SamR.mono s3 hh, ⟨t, rfl, s3 _ _ ht⟩, by omega, fun H4 s4 => ⟨true, rfl, if_f rfl ?_⟩⟩
    have s5 := s3.trans s4
    have el5 : H4 l = some (.lst (us.take i)) := s4 _ _ (s' _ _ el)
    have hp5 : Paired (TN H4) (us.take i) ((cellv n).take i) := Paired.of_get (by rw [List.length_take, List.length_take, Paired.len hp]) fun j x y hx hy => by
      rw [List.getElem?_take] at hx hy
      split at hx
      · rename_i hj
        rw [if_pos hj] at hy
        obtain ⟨z, hz, hz2⟩ := Paired.get' hp hx
        rw [hz] at hy
        cases hy
        exact SamR.mono s5 hz2
      · cases hx
    refine ⟨_, rfl, .inr ⟨t, _, rfl, SqT.of (s5 _ _ ht), _, rfl, dN [i], ((cellv n).take i).map dN, dp_N ⟨t, rfl, s5 _ _ ht⟩, .lst (SqL.of el5) (dp_all (fun _ _ z => dp_N z) hp5), (dok_N _).shaped (by decide), (dok_lst (k := 1) fun x hx => ?_).shaped (by decide), _, rfl, if_f ?_ ?_⟩⟩
    · obtain ⟨y, _, rfl⟩ := List.mem_map.mp hx
      exact dok_N _
    · rw [List.any_map]
      refine Bool.eq_false_iff.mpr fun z => ?_
      obtain ⟨y, hy, e⟩ := List.any_eq_true.mp z
      have e2 : PyData.eqv (dN y) (dN [i]) = true := e
      rw [eqv_N] at e2
      have e3 := of_decide_eq_true e2
      subst e3
      obtain ⟨j, hj, e4⟩ := List.getElem_of_mem hy
      rw [List.length_take, cellv_len] at hj
      rw [List.getElem_take] at e4
      have e5 := cellv_get (n := n) (c := j) (by omega)
      rw [List.getElem?_eq_getElem (by rw [cellv_len]; omega), e4] at e5
      simp at e5
      omega
    · refine ⟨_, rfl, .inl ⟨rfl, _, SqL.of el5⟩, _, rfl, .inr ⟨t, _, rfl, SqT.of (s5 _ _ ht), l, _, _, rfl, rfl, el5, ?_, ?_⟩⟩
      · exact Nat.lt_of_le_of_lt (Nat.le_trans (List.length_take_le _ _) (by omega : i ≤ 1000)) (by decide)
      · refine ⟨_, _, rfl, same_out s5 nl0, ?_⟩
        rw [upd_same, List.take_succ, hx]
        rfl
  · subst e
    rw [List.take_length] at el
    exact ⟨_, rfl, .inl ⟨l, us, rfl, SqL.of el, fun p np => q _ _ (s.trans (same_new np)) ⟨p, us, rfl, upd_same, L2.Paired.mapP hp fun _ _ z => SamR.mono (s.trans (same_new np)) z⟩⟩⟩
def sp_cell_view (K : PySem.W.Frag) : Sp := S1 fun h H Q _ => ∃ D, HS K H h D ∧ D.sizes.length ≤ 6 ∧ ∀ u H', Same H H' → TTN H' u (cellv D.sizes.length) → Q u H'
theorem rd_cell_view (G : Gs K mg) {vs : List V} {H : Hp} {Q : VK} {E : XK} (h : sp_cell_view K vs H Q E) : t_cell_view P w K (sp_need_house K) (Dn Q) (start N_cell_view vs) H := by
  obtain ⟨u, rfl, D, hh, h6, q⟩ := h
  obtain ⟨a, dx, fs, s, t, ch, ah, be, rfl, h1, h2, ⟨bs, rfl, hbs⟩, hr⟩ := id hh
  refine ⟨_, rfl, _, rfl, hh.is, a, _, dx, fs, _, rfl, h1, G.cls, G.n_sizes, h2, _, _, rfl, .inr (SqT.of hbs), _, rfl, by rw [nl_len]; omega, by rw [nl_len]; omega, ?_⟩
  intro L nL
  rw [nl_len, Int.toNat_natCast]
  refine lc_map nL (iw_range (p := 1)) (fun _ => rfl) (by omega) (fun _ _ => trivial) (fun i H y => TN H y [i]) (fun _ _ _ _ s h => ImmR.mono s h) (fun i H2 hi s2 Qk hk => ?_) (fun H2 ys s2 e2 l2 r2 => ?_)
  · refine ⟨_, rfl, (by show 1 ≤ sizeLine; decide), fun p np => hk _ _ (same_new np) ⟨p, rfl, ?_⟩⟩
    rw [upd_same]
    show some (HO.tup [V.int (0 + (i : Nat))]) = some (HO.tup (NL [i]))
    rw [Int.zero_add]
    rfl
  · have pr : Paired (TN H2) ys (cellv D.sizes.length) := Paired.of_get (by rw [cellv_len]; exact l2) fun i x y hx hy => by
      have hi := (List.getElem?_eq_some_iff.mp hx).1
      rw [cellv_get (by omega)] at hy
      cases hy
      exact r2 i x hx
    exact .inl ⟨L, ys, rfl, SqL.of e2, fun p np => q _ _ (s2.trans (same_new np)) ⟨p, ys, rfl, upd_same, L2.Paired.mapP pr fun _ _ z => SamR.mono (same_new np) z⟩⟩
def sp_seen_at (K : PySem.W.Frag) : Sp := S3 fun h v m H Q _ => ∃ D c k st, HS K H h D ∧ TN H v [c] ∧ m = nV k ∧ D.standings[k]? = some st ∧ c < st.length ∧ ∀ u H', Same H H' → TN H' u [st.getD c 0] → Q u H'
theorem rd_seen_at (G : Gs K mg) {vs : List V} {H : Hp} {Q : VK} {E : XK} (h : sp_seen_at K vs H Q E) : t_seen_at P w K (Dn Q) (start N_seen_at vs) H := by
  obtain ⟨u, v, m, rfl, D, c, k, st, hh, ⟨b, rfl, hb⟩, rfl, hk, hc, q⟩ := h
  obtain ⟨a, dx, fs, s, t, ch, ah, be, rfl, h1, h2, h3, h4, ⟨bt, us, rfl, hbt, hp⟩, hr⟩ := id hh
  obtain ⟨x, hx, r, rfl, hr⟩ := Paired.get hp hk
  refine ⟨_, rfl, b, NL [c], .T, rfl, SqT.of hb, ?_⟩
  intro L nL
  refine lc_map nL (iw_seq (k := .T) (p := 3)) (fun _ => rfl) (by rw [nl_len]; show 1 ≤ 1000; omega) (fun H2 s2 => SqT.of (s2 _ _ hb)) (fun i _ y => y = nV (st.getD c 0)) (fun _ _ _ _ _ h => h) (fun i H2 hi s2 Qk hk => ?_) (fun H2 ys s2 e2 l2 r2 => ?_)
  · rw [nl_len] at hi
    have hi0 : i = 0 := by simpa using hi
    subst hi0
    rw [nl_getD (ns := [c]) (i := 0) (by simp)]
    refine ⟨_, rfl, a, _, dx, fs, _, rfl, s2 _ _ h1, G.cls, G.n_standings, h4, _, rfl, bt, us, _, _, rfl, rfl, SqT.of (s2 _ _ hbt), atI_nat hx, _, rfl, r, _, _, _, rfl, rfl, SqT.of (s2 _ _ hr), atI_nat (nl_get (n := st.getD c 0) ?_), hk _ _ (Same.refl _) rfl⟩
    rw [List.getD_eq_getElem?_getD]
    obtain ⟨z, hz⟩ := lt_get hc
    show st[c]? = _
    rw [hz]
    rfl
  · have ey : ys = [nV (st.getD c 0)] := by
      rw [nl_len] at l2
      obtain ⟨y, rfl⟩ := List.length_eq_one_iff.mp l2
      rw [r2 0 y rfl]
    subst ey
    exact .inl ⟨L, _, rfl, SqL.of e2, fun p np => q _ _ (s2.trans (same_new np)) ⟨p, rfl, upd_same⟩⟩
end
end K24
set_option Elab.async false
set_option linter.all false
set_option maxRecDepth 100000
set_option maxHeartbeats 4000000
namespace K24
open PySem PySem.Spec PyProof.Rows L2
section
variable {J : It} {g : TG} {n : Nat} {sf : Nat → L2.St → L2.St} {G : Hp → Prop}
/-- a comprehension of any kind -/
theorem co_go (w : Iw J g n sf G) {tt : TT} {o0 : Addr → HO} {add : Addr → L2.St → Hp → (Hp → Prop) → Prop} {vs : List Nat} {σ : L2.St} {H1 : Hp} {D : Addr} {Qd : Hp → Prop} (hw : ∀ i, wipe (sf i (wipe σ vs)) vs = wipe σ vs) (Pv : Nat → Hp → Prop) (h0 : Pv 0 (upd H1 D (o0 D))) (hG : ∀ i H, i ≤ n → Pv i H → G H)
    (hs : ∀ i H H', i < n → Pv i H → Same H H' → tt (sf i (wipe σ vs)) H' fun b H3 => if b = true then add D (sf i (wipe σ vs)) H3 (Pv (i + 1)) else Pv (i + 1) H3) (hd : ∀ H, Pv n H → Qd H) :
    ∃ W : Nat → Nat → Hp → Prop, (∃ m, W 0 m (upd H1 D (o0 D))) ∧ ∀ i m H, W i m H →
      (J.stop i H ∧ Qd H) ∨ (J.go i H ∧ ∃ Nx : Hp → Prop, (∀ H', Nx H' → ∃ m', m' < m ∧ W (i + 1) m' H') ∧ ∀ x H', J.yld i H x H' → g x (wipe σ vs) H' fun σ2 H2 => wipe σ2 vs = wipe σ vs ∧ tt σ2 H2 fun b H3 =>
        if b = true then add D σ2 H3 Nx else Nx H3) := by
  refine ⟨fun i m H => m = n - i ∧ i ≤ n ∧ Pv i H, ⟨n, by simp, Nat.zero_le _, h0⟩, ?_⟩
  rintro i m H ⟨rfl, hi, p⟩
  have q := hG i H hi p
  by_cases hlt : i < n
  · refine .inr ⟨w.go i H hlt q, Pv (i + 1), fun H' p' => ⟨n - (i + 1), by omega, rfl, hlt, p'⟩, fun x H' y => w.yld i _ H x H' hlt q y _ fun H2 s => ⟨hw i, hs i H H2 hlt p s⟩⟩
  · have e : i = n := by omega
    subst e
    exact .inl ⟨w.stop H q, hd H p⟩
/-- [e for ..], each item told by R that the new list does not touch -/
theorem lc_mapX {H1 : Hp} {D : Addr} (nD : H1 D = none) (w : Iw J g n sf G) {te : TE} {vs : List Nat} {σ : L2.St} {Qd : Hp → Prop} (hw : ∀ i, wipe (sf i (wipe σ vs)) vs = wipe σ vs) (hn : n ≤ 1000) (hG : ∀ H, Same H1 H → G H) (R : Nat → Hp → V → Prop) (mono : ∀ i H H' y, (∃ acc, H D = some (.lst acc)) → SmX D H H' → R i H y → R i H' y)
    (hs : ∀ i H, i < n → Same H1 H → H D ≠ none → ∀ Qk : VK, (∀ y H', Same H H' → R i H' y → Qk y H') → te (sf i (wipe σ vs)) H Qk)
    (hd : ∀ H2 ys, Same H1 H2 → H2 D = some (.lst ys) → ys.length = n → (∀ i y, ys[i]? = some y → R i H2 y) → Qd H2) :
    ∃ W : Nat → Nat → Hp → Prop, (∃ m, W 0 m (upd H1 D (.lst []))) ∧ ∀ i m H, W i m H →
      (J.stop i H ∧ Qd H) ∨ (J.go i H ∧ ∃ Nx : Hp → Prop, (∀ H', Nx H' → ∃ m', m' < m ∧ W (i + 1) m' H') ∧ ∀ x H', J.yld i H x H' → g x (wipe σ vs) H' fun σ2 H2 => wipe σ2 vs = wipe σ vs ∧ tYes σ2 H2 fun b H3 =>
        if b = true then te σ2 H3 fun y H4 => ∃ acc, H4 D = some (.lst acc) ∧ acc.length < sizeLine ∧ Nx (upd H4 D (.lst (acc ++ [y]))) else Nx H3) := by
  refine lc_go w hw (Qd := Qd) (fun i H => ∃ acc, H D = some (.lst acc) ∧ Same H1 H ∧ acc.length = i ∧ ∀ j y, acc[j]? = some y → R j H y) ⟨[], upd_same, same_new nD, rfl, fun j y h => by simp at h⟩ (fun i H _ ⟨_, _, s, _⟩ => hG H s) (fun i H H' hi ⟨acc, e, s, l, r⟩ s' => ?_) (fun H ⟨acc, e, s, l, r⟩ => hd H acc s e l r)
  show te (sf i (wipe σ vs)) H' _
  refine hs i H' hi (s.trans s') (by rw [s' _ _ e]; exact fun z => nomatch z) _ fun y H4 s4 ry => ⟨acc, s4 _ _ (s' _ _ e), by rw [l]; exact Nat.lt_of_lt_of_le (Nat.lt_of_lt_of_le hi hn) (by decide), acc ++ [y], upd_same, same_out (s.trans (s'.trans s4)) nD, by simp [l], fun j z hz => ?_⟩
  by_cases hj : j < acc.length
  · rw [List.getElem?_append_left hj] at hz
    exact mono _ _ _ _ ⟨_, e⟩ ((smx (s'.trans s4)).trans smx_upd) (r j z hz)
  · rw [List.getElem?_append_right (by omega)] at hz
    have : j = i := by
      have := (List.getElem?_eq_some_iff.mp hz).1
      simp at this
      omega
    subst this
    rw [l] at hz
    simp at hz
    subst hz
    exact mono _ _ _ _ ⟨_, s4 _ _ (s' _ _ e)⟩ smx_upd ry
end
section
variable {P : Program} {w : World} {K : PySem.W.Frag} {mg : Str → Option Value}
/-- a list of lists of tuples: at c all that is seen at c -/
def Conts (D : HD) (c : Nat) (H : Hp) (v : V) : Prop := ∃ l, Ls TN H v l ∧ ∀ st ∈ D.standings, [st.getD c 0] ∈ l
def sp_shown_contents (K : PySem.W.Frag) : Sp := S2 fun h v H Q _ => ∃ D n, HS K H h D ∧ TTN H v (cellv n) ∧ Gd D n ∧ ∀ L ys H', Same H H' → H' L = some (.lst ys) → ys.length = n → (∀ (c : Nat) (y : V), ys[c]? = some y → Conts D c H' y) → Q (.ref L) H'
theorem rd_shown_contents {vs : List V} {H : Hp} {Q : VK} {E : XK} (h : sp_shown_contents K vs H Q E) : t_shown_contents P w K (sp_seen_at K) (sp_Houselen K) (Dn Q) (start N_shown_contents vs) H := by
  obtain ⟨u, v, rfl, D, n, hh, ⟨b, us, rfl, hb, hp⟩, g, q⟩ := h
  have hul : us.length = n := by rw [Paired.len hp, cellv_len]
  have h64 := g.l64
  have hn6 := g.n6
  obtain ⟨a, dx, fs, s, t, ch, ah, be, rfl, h1, hr⟩ := id hh
  refine ⟨_, rfl, b, us, .T, rfl, SqT.of hb, ?_⟩
  intro L nL
  refine lc_mapX nL (iw_seq (k := .T) (p := 2)) (fun _ => rfl) (by omega) (fun H2 s2 => SqT.of (s2 _ _ hb)) (fun c H y => ∃ b us l, y = .ref b ∧ b ≠ L ∧ H b = some (.lst us) ∧ Paired (TN H) us l ∧ ∀ st ∈ D.standings, [st.getD c 0] ∈ l)
    (fun c H H' y ⟨acc, eL⟩ sx ⟨b, us, l, e, bn, hb, hp, hm⟩ => ⟨b, us, l, e, bn, sx _ _ bn hb, L2.Paired.mapP hp fun _ _ ⟨r, er, hr⟩ => ⟨r, er, sx _ _ (ne_of hr eL (fun z => nomatch z)) hr⟩, hm⟩) (fun c H2 hc s2 hL Qk hk => ?_) (fun H2 ys s2 e2 l2 r2 => ?_)
  · obtain ⟨x, hx⟩ := lt_get hc
    obtain ⟨wd, hwd, r, rfl, hr0⟩ := Paired.get' hp hx
    rw [hul] at hc
    rw [cellv_get hc] at hwd
    cases hwd
    rw [get_getD hx]
    refine ⟨_, rfl, a, dx, fs, rfl, s2 _ _ h1, _, rfl, D, SamR.mono s2 hh, _, rfl, by omega, by omega, _, rfl, by omega, by omega, ?_⟩
    intro S nS
    rw [Int.toNat_natCast]
    refine co_go (o0 := fun D => SetTO P w D []) (iw_range (p := 3)) (fun _ => rfl) (fun i H3 => ∃ Ls : List (Addr × List Int), H3 S = some (SetTO P w S Ls) ∧ Same H2 H3 ∧ Ls.length ≤ i ∧ (∀ p ∈ Ls, H3 p.1 = some (.tup (p.2.map V.int)) ∧ ∃ x : Nat, p.2 = toI [x] ∧ x < 64) ∧ ∀ (j : Nat) (st : List Nat), j < i → D.standings[j]? = some st → toI [st.getD c 0] ∈ Ls.map Prod.snd)
      ⟨[], upd_same, same_new nS, Nat.zero_le _, (fun p hp => by cases hp), (fun j st hj => by omega)⟩ (fun _ _ _ _ => trivial) (fun i H3 H4 hi ⟨Ls, e3, s3, l3, f3, m3⟩ s4 => ?_) (fun H3 ⟨Ls, e3, s3, l3, f3, m3⟩ => ?_)
    · obtain ⟨st, hst⟩ := lt_get hi
      obtain ⟨hl, h64'⟩ := g.row st (mem_get hst)
      have t4 := s2.trans (s3.trans s4)
      simp only [tYes, if_true]
      refine ⟨_, rfl, _, rfl, _, rfl, _, _, _, rfl, D, c, i, st, SamR.mono t4 hh, ⟨r, rfl, t4 _ _ hr0⟩, ?_, hst, by omega, fun y H5 s5 ⟨q5, ey, hq5⟩ => ?_⟩
      · show V.int (0 + (i : Nat)) = nV i
        rw [Int.zero_add]
      have e5 := s5 _ _ (s4 _ _ e3)
      have hx64 : st.getD c 0 < 64 := by
        obtain ⟨z, hz⟩ := lt_get (xs := st) (i := c) (by omega)
        rw [List.getD_eq_getElem?_getD, hz]
        exact h64' z (mem_get hz)
      refine ⟨Ls, q5, toI [st.getD c 0], e5, ey, by rw [hq5, nl_toI], fun p hp => SqT.of (s5 _ _ (s4 _ _ (f3 p hp).1)), by omega, fun L' hin hout => ?_⟩
      have old : ∀ p ∈ Ls, (upd H5 S (SetTO P w S L')) p.1 = some (.tup (p.2.map V.int)) ∧ ∃ x : Nat, p.2 = toI [x] ∧ x < 64 := fun p hp => by
        obtain ⟨z1, z2⟩ := f3 p hp
        have z3 := s5 _ _ (s4 _ _ z1)
        refine ⟨?_, z2⟩
        rw [upd_ne (ne_of z3 e5 (fun z => nomatch z))]
        exact z3
      have ss : Same H2 (upd H5 S (SetTO P w S L')) := same_out (s3.trans (s4.trans s5)) nS
      by_cases hk2 : toI [st.getD c 0] ∈ Ls.map Prod.snd
      · obtain rfl := hin hk2
        refine ⟨L', upd_same, ss, by omega, old, fun j st' hj hst' => ?_⟩
        by_cases z : j = i
        · subst z
          rw [hst] at hst'
          cases hst'
          exact hk2
        · exact m3 j st' (by omega) hst'
      · have pm := hout hk2
        refine ⟨L', upd_same, ss, by rw [pm.length_eq, List.length_cons]; omega, fun p hp => ?_, fun j st' hj hst' => ?_⟩
        · rcases List.mem_cons.mp (pm.mem_iff.mp hp) with rfl | hp
          · refine ⟨?_, _, rfl, hx64⟩
            rw [upd_ne (ne_of hq5 e5 (fun z => nomatch z)), hq5, nl_toI]
          · exact old p hp
        · refine (pm.map Prod.snd).mem_iff.mpr ?_
          rw [List.map_cons]
          by_cases z : j = i
          · subst z
            rw [hst] at hst'
            cases hst'
            exact List.mem_cons_self
          · exact List.mem_cons_of_mem _ (m3 j st' (by omega) hst')
    · refine ⟨S, Ls, 1, 64, rfl, e3, fun p hp => SqT.of (f3 p hp).1, by omega, fun p hp => ?_, fun L' b' pm nd l64 pw nb => ?_⟩
      · obtain ⟨_, x, e, hx⟩ := f3 p hp
        rw [e]
        exact ⟨rfl, bd_toI fun y hy => by simp at hy; omega⟩
      · have s5 := s3.trans (same_new (o := .lst (L'.map fun q => V.ref q.1)) nb)
        have hbL : b' ≠ L := fun z => hL (same_none s3 (by rw [← z]; exact nb))
        refine hk _ _ s5 ⟨b', _, L'.map fun q => q.2.map Int.toNat, rfl, hbL, upd_same, ?_, fun st hst => ?_⟩
        · refine Paired.of_get (by simp) fun i x y hx hy => ?_
          rw [List.getElem?_map] at hx hy
          cases hz : L'[i]? with
          | none => rw [hz] at hx; cases hx
          | some z =>
            rw [hz] at hx hy
            cases hx
            cases hy
            obtain ⟨z1, x, e, _⟩ := f3 z (pm.mem_iff.mp (mem_get hz))
            refine ⟨z.1, rfl, ?_⟩
            rw [upd_ne (ne_of_none z1 nb), z1, e]
            show some (HO.tup (List.map V.int (toI [x]))) = some (HO.tup (NL (z.2.map Int.toNat)))
            rw [e]
            rfl
        · obtain ⟨j, hj, ej⟩ := List.getElem_of_mem hst
          have := m3 j st hj (by rw [← ej]; simp [hj])
          have := (pm.map Prod.snd).mem_iff.mpr this
          obtain ⟨z, hz, e⟩ := List.mem_map.mp this
          refine List.mem_map.mpr ⟨z, hz, ?_⟩
          rw [e]
          rfl
  · exact q L ys H2 s2 e2 (by omega) fun c y hc => let ⟨b, us, l, e, _, hb, hp, hm⟩ := r2 c y hc; ⟨l, ⟨b, us, e, hb, hp⟩, hm⟩
end
end K24
set_option Elab.async false
set_option linter.all false
set_option maxRecDepth 100000
set_option maxHeartbeats 4000000
namespace K24
open PySem PySem.Spec PyProof.Rows L2
section
variable {P : Program} {w : World} {K : PySem.W.Frag} {mg : Str → Option Value}
def sp_is_shown : Sp := S2 fun t v H Q _ => ∃ l x, Ls TN H t l ∧ TN H v [x] ∧ [x] ∈ l ∧ ∀ H', Same H H' → Q (.bl true) H'
theorem rd_is_shown {vs : List V} {H : Hp} {Q : VK} {E : XK} (h : sp_is_shown vs H Q E) : t_is_shown P w K sp_is_number (Dn Q) (start N_is_shown vs) H := by
  obtain ⟨t, v, rfl, l, x, ht, hv, hm, q⟩ := h
  have hv0 := hv
  have ht0 := ht
  obtain ⟨b, rfl, hb⟩ := hv
  obtain ⟨a, us, rfl, ha, hp⟩ := ht
  refine ⟨_, rfl, _, _, _, _, true, rfl, .ty _, .base (.tup hb), kit_ty (by decide +kernel), true, rfl, if_t rfl ?_⟩
  refine ⟨_, rfl, b, NL [x], .T, rfl, SqT.of hb, ?_⟩
  intro D nD
  refine lc_all nD (iw_seq (k := .T) (p := 2)) (fun _ => rfl) (by rw [nl_len]; show 1 ≤ 1000; omega) (fun H2 s2 => SqT.of (s2 _ _ hb)) (fun i H2 hi s2 Qk hk => ?_) (fun H2 s2 e2 => ⟨D, List.replicate (NL [x]).length true, rfl, SqL.of e2, ?_⟩)
  · rw [nl_len] at hi
    rw [nl_getD hi]
    refine ⟨_, rfl, _, rfl, .inl ⟨_, rfl, ?_⟩⟩
    rw [decide_eq_true (Int.natCast_nonneg _)]
    exact hk _ (Same.refl _)
  · rw [all_rep]
    refine ⟨true, rfl, if_t rfl ?_⟩
    have ht2 : Ls TN H2 (.ref a) l := SamR.mono s2 ht0
    obtain ⟨a', us', e, ha', hp'⟩ := ht2
    cases e
    refine ⟨_, rfl, _, rfl, dN [x], l.map dN, dp_N (SamR.mono s2 hv0), .lst (SqL.of ha') (dp_all (fun _ _ z => dp_N z) hp'), (dok_N _).shaped (by decide), (dok_lst (k := 1) fun y hy => ?_).shaped (by decide), ?_⟩
    · obtain ⟨z, _, rfl⟩ := List.mem_map.mp hy
      exact dok_N _
    · have : ((l.map dN).any fun z => PyData.eqv z (dN [x])) = true := by
        rw [List.any_map]
        refine List.any_eq_true.mpr ⟨[x], hm, ?_⟩
        show PyData.eqv (dN [x]) (dN [x]) = true
        rw [eqv_N, decide_eq_true rfl]
      rw [this]
      exact q _ s2
def sp_need_row (K : PySem.W.Frag) : Sp := S3 fun h v r H Q _ => ∃ D n, HS K H h D ∧ TTN H v (cellv n) ∧ TTN H r (List.replicate n [0]) ∧ Gd D n ∧ ∀ H', Same H H' → Q r H'
theorem rd_need_row {vs : List V} {H : Hp} {Q : VK} {E : XK} (h : sp_need_row K vs H Q E) : t_need_row P w K (sp_shown_contents K) sp_is_shown (Dn Q) (start N_need_row vs) H := by
  obtain ⟨u, v, r, rfl, D, n, hh, hv, hr, g, q⟩ := h
  have hv0 := hv
  have hr0 := hr
  obtain ⟨b, us, rfl, hb, hp⟩ := hv
  obtain ⟨c, ws, rfl, hc, hq⟩ := hr
  have hul : us.length = n := by rw [Paired.len hp, cellv_len]
  have hwl : ws.length = n := by rw [Paired.len hq, List.length_replicate]
  refine ⟨_, rfl, _, _, _, _, true, rfl, .ty _, .base (.tup hc), kit_ty (by decide +kernel), true, rfl, if_f rfl ?_⟩
  refine ⟨_, rfl, _, _, rfl, .inr (SqT.of hc), _, rfl, _, _, rfl, .inr (SqT.of hb), rfl, _, rfl, if_f (by rw [hul, hwl]; simp) ?_⟩
  refine ⟨_, rfl, _, rfl, _, _, rfl, D, n, hh, hv0, g, fun L ys H1 s1 eL lL fL => ?_⟩
  refine ⟨L, ys, .L, rfl, SqL.of eL, ?_⟩
  refine for_go (iw_enum (k := .L) (p := 3) (q := 4)) (fun i σ H' => ∃ o1 o2, σ = [some u, some (.ref b), some (.ref c), o1, o2] ∧ Same H1 H') ⟨_, _, rfl, Same.refl _⟩ (fun i σ H' _ ⟨_, _, _, s⟩ => SqL.of (s _ _ eL)) (fun i σ H2 H3 hi ⟨o1, o2, e, s⟩ s' => ?_) (fun σ H' ⟨_, _, e, s⟩ => ?_)
  · subst e
    obtain ⟨y, hy⟩ := lt_get hi
    rw [get_getD hy]
    obtain ⟨l, hl, hm⟩ := fL i y hy
    obtain ⟨x, hx⟩ := lt_get (xs := ws) (i := i) (by omega)
    obtain ⟨z, hz, hxz⟩ := Paired.get' hq hx
    have hz0 : z = [0] := by
      rw [List.getElem?_replicate] at hz
      split at hz
      · exact (Option.some.inj hz).symm
      · cases hz
    subst hz0
    have s3 := s.trans s'
    have t3 := s1.trans s3
    obtain ⟨st, hst, ez⟩ := g.zero i (by omega)
    have hm0 := hm st hst
    rw [ez] at hm0
    exact ⟨_, rfl, _, rfl, _, rfl, c, ws, _, _, rfl, rfl, SqT.of (t3 _ _ hc), atI_nat hx, _, _, rfl, l, 0, SamR.mono s3 hl, SamR.mono t3 hxz, hm0, fun H5 s5 => ⟨true, rfl, if_f rfl ⟨_, _, rfl, s3.trans s5⟩⟩⟩
  · subst e
    exact ⟨_, rfl, q _ (s1.trans s)⟩
def sp_need_word : Sp := S2 fun m v H Q _ => ∃ n ws, m = nV n ∧ SN H v ws ∧ (∀ x ∈ ws, x < n) ∧ ∀ u H', Same H H' → TN H' u ws → Q u H'
theorem rd_need_word {vs : List V} {H : Hp} {Q : VK} {E : XK} (h : sp_need_word vs H Q E) : t_need_word P w K sp_is_sequence sp_is_number (Dn Q) (start N_need_word vs) H := by
  obtain ⟨m, v, rfl, n, ws, rfl, hv, hx, q⟩ := h
  have hv0 := hv
  obtain ⟨k, a, rfl, ha⟩ := hv
  refine ⟨_, rfl, _, rfl, true, seq_of ha, fun H1 s1 => ⟨true, rfl, if_f rfl ?_⟩⟩
  refine ⟨_, rfl, a, NL ws, k, rfl, sq_of (s1 _ _ ha), ?_⟩
  refine for_go (iw_enum (p := 2) (q := 3)) (fun i σ H' => ∃ o1 o2, σ = [some (nV n), some (.ref a), o1, o2] ∧ Same H H') ⟨_, _, rfl, s1⟩ (fun i σ H' _ ⟨_, _, _, s⟩ => sq_of (s _ _ ha)) (fun i σ H2 H3 hi ⟨o1, o2, e, s⟩ s' => ?_) (fun σ H' ⟨_, _, e, s⟩ => ?_)
  · subst e
    rw [nl_len] at hi
    have hm := hx ws[i] (List.getElem_mem hi)
    rw [nl_getD hi]
    exact ⟨_, rfl, _, rfl, .inl ⟨_, rfl, _, rfl, if_f (by simp) ⟨_, rfl, _, rfl, _, _, rfl, rfl, _, rfl, if_f (decide_eq_false (by omega)) ⟨_, _, rfl, s.trans s'⟩⟩⟩⟩
  · subst e
    exact ⟨_, rfl, kTup_SN (SamR.mono s hv0) fun u H4 s4 t4 => q u H4 (s.trans s4) t4⟩
/-! ### what one sees -/
def othersOf (qs : List Nat) : List Nat := (List.range qs.length).filter fun k => qs.getD k 0 != 0
def shownAt (D : HD) (os : List Nat) (c : Nat) : List Nat := os.filter fun k => (D.standings.getD k []).getD c 0 == 0
def shownOf (D : HD) (os : List Nat) (n : Nat) : List (List Nat) := (List.range n).map (shownAt D os)
def Sight (D : HD) (qs : List Nat) (n : Nat) (H : Hp) (u : V) : Prop := ∃ t o s, u = .ref t ∧ H t = some (.tup [o, s]) ∧ TN H o (othersOf qs) ∧ TTN H s (shownOf D (othersOf qs) n)
def sp_need_sight (K : PySem.W.Frag) : Sp := S5 fun h v qv av r H Q _ => ∃ D n qs, HS K H h D ∧ TTN H v (cellv n) ∧ TN H qv qs ∧ qs.length = D.standings.length ∧ av = nV 0 ∧ TTN H r (List.replicate n [0]) ∧ Gd D n ∧ ∀ u H', Same H H' → Sight D qs n H' u → Q u H'
theorem rd_need_sight {vs : List V} {H : Hp} {Q : VK} {E : XK} (h : sp_need_sight K vs H Q E) : t_need_sight P w K (sp_need_house K) (sp_need_view K) (sp_need_question K) (sp_need_row K) (sp_seen_at K) (Dn Q) (start N_need_sight vs) H := by
  obtain ⟨hv, v, qv, av, r, rfl, D, n, qs, hh, hvv, hq, hql, rfl, hr, g, q⟩ := h
  have h64 := g.l64
  refine ⟨_, rfl, _, rfl, hh.is, ?_⟩
  refine ⟨_, rfl, _, rfl, _, _, rfl, D, n, hh, hvv, g.sz.symm, g.n1, g.n6, fun v1 H1 s1 hv1 => ?_⟩
  refine ⟨_, rfl, _, rfl, _, _, rfl, D, qs, SamR.mono s1 hh, SamR.mono s1 hq, hql, by omega, fun H2 s2 => ?_⟩
  have t2 := s1.trans s2
  refine ⟨_, rfl, _, rfl, _, rfl, _, _, _, rfl, D, n, SamR.mono t2 hh, SamR.mono s2 hv1, SamR.mono t2 hr, g, fun H3 s3 => ?_⟩
  have t3 := t2.trans s3
  -- others
  obtain ⟨a, rfl, ha⟩ := id (SamR.mono t3 hq)
  refine ⟨_, rfl, a, NL qs, .T, rfl, SqT.of ha, ?_⟩
  intro L nL
  refine lc_sel nL (iw_enum (k := .T) (p := 9) (q := 10)) (fun _ => rfl) (by rw [nl_len]; omega) (fun H4 s4 => SqT.of (s4 _ _ ha)) (fun i => qs.getD i 0 != 0) (fun i => nV i) (fun i H4 hi s4 Qk hk => ?_) (fun i H4 hi s4 hp Qk hk => ⟨_, rfl, hk _ (Same.refl _)⟩) (fun H4 s4 e4 => ?_)
  · rw [nl_len] at hi
    rw [nl_getD hi]
    refine ⟨_, rfl, _, rfl, rfl, _, rfl, ?_⟩
    have : (!decide (nV qs[i] = nV 0)) = (qs.getD i 0 != 0) := by
      rw [List.getD_eq_getElem?_getD, List.getElem?_eq_getElem hi]
      show (!decide (nV qs[i] = nV 0)) = (qs[i] != 0)
      by_cases z : qs[i] = 0
      · rw [z]; rfl
      · have z2 : nV qs[i] ≠ nV 0 := fun e => z (Int.ofNat.inj (V.int.inj e))
        rw [decide_eq_false z2, bne_iff_ne.mpr z]
        rfl
    rw [this]
    exact hk _ (Same.refl _)
  rw [nl_len] at e4
  have e4' : H4 L = some (.lst (NL (othersOf qs))) := e4
  refine .inl ⟨L, _, rfl, SqL.of e4', fun o no => ?_⟩
  have s5 := s4.trans (same_new (o := .tup (NL (othersOf qs))) no)
  have ho : (upd H4 o (.tup (NL (othersOf qs)))) o = some (.tup (NL (othersOf qs))) := upd_same
  generalize upd H4 o (.tup (NL (othersOf qs))) = H5 at s5 ho ⊢
  have t5 := t3.trans s5
  -- shown
  refine ⟨Nat.zero_le _, fun S nS => ?_⟩
  have s6 := same_new (o := .lst []) nS
  have hv6 := SamR.mono (s2.trans (s3.trans (s5.trans s6))) hv1
  have hr6 := SamR.mono (t5.trans s6) hr
  obtain ⟨b, us, rfl, hb, hp⟩ := id hv6
  obtain ⟨c, ws, rfl, hc, hqq⟩ := id hr6
  have hul : us.length = n := by rw [Paired.len hp, cellv_len]
  have hwl : ws.length = n := by rw [Paired.len hqq, List.length_replicate]
  refine ⟨_, rfl, _, rfl, b, c, us, ws, .T, .T, rfl, SqT.of hb, SqT.of hc, ?_⟩
  refine for_go (iw_zip (k := .T) (l := .T) (p := 7) (q := 8) (n := n) (by omega)) (fun i σ H' => ∃ o1 o2 acc, σ = [some hv, some (.ref b), some (.ref a), some (nV 0), some (.ref c), some (.ref o), some (.ref S), o1, o2, none, none] ∧ Same H5 H' ∧ (∀ x y, (upd H5 S (.lst [])) x = some (.tup y) → H' x = some (.tup y)) ∧ H' S = some (.lst acc) ∧ Paired (TN H') acc ((List.range i).map (shownAt D (othersOf qs))))
    ⟨_, _, [], rfl, s6, fun _ _ z => z, upd_same, .nil⟩ (fun i σ H' _ ⟨_, _, _, _, _, s, _⟩ => ⟨SqT.of (s _ _ hb), SqT.of (s _ _ hc)⟩) (fun i σ H7 H8 hi ⟨o1, o2, acc, e, s7, tt7, e7, p7⟩ s8 => ?_) (fun σ H7 ⟨o1, o2, acc, e, s7, tt7, e7, p7⟩ => ?_)
  · subst e
    obtain ⟨x, hx⟩ := lt_get (xs := us) (i := i) (by omega)
    obtain ⟨y, hy⟩ := lt_get (xs := ws) (i := i) (by omega)
    obtain ⟨cx, hcx, wx, rfl, hwx⟩ := Paired.get' hp hx
    obtain ⟨cy, hcy, wy, rfl, hwy⟩ := Paired.get' hqq hy
    rw [cellv_get hi] at hcx
    cases hcx
    have hz0 : cy = [0] := (List.mem_replicate.mp (mem_get hcy)).2
    subst hz0
    rw [get_getD hx, get_getD hy]
    have t8 := s7.trans s8
    have hwx8 : H8 wx = some (.tup (NL [i])) := s8 _ _ (tt7 _ _ hwx)
    have hwy8 : H8 wy = some (.tup (NL [0])) := s8 _ _ (tt7 _ _ hwy)
    have e8 := s8 _ _ e7
    refine ⟨_, rfl, .inl ⟨rfl, _, SqL.of e8⟩, ?_⟩
    refine ⟨_, rfl, o, NL (othersOf qs), .T, rfl, SqT.of (t8 _ _ ho), ?_⟩
    intro M nM
    have ol : (othersOf qs).length ≤ 63 := by
      unfold othersOf
      have := List.length_filter_le (fun k => qs.getD k 0 != 0) (List.range qs.length)
      rw [List.length_range] at this
      omega
    refine lc_sel nM (iw_seq (k := .T) (p := 9)) (fun _ => rfl) (by rw [nl_len]; omega) (fun H9 s9 => SqT.of (s9 _ _ (t8 _ _ ho))) (fun j => (D.standings.getD ((othersOf qs).getD j 0) []).getD i 0 == 0) (fun j => nV ((othersOf qs).getD j 0)) (fun j H9 hj s9 Qk hk => ?_) (fun j H9 hj s9 hpj Qk hk => ?_) (fun H9 s9 e9 => ?_)
    · rw [nl_len] at hj
      rw [nl_getD hj]
      have ej : (othersOf qs).getD j 0 = (othersOf qs)[j] := by rw [List.getD_eq_getElem?_getD, List.getElem?_eq_getElem hj]; rfl
      rw [ej] at hk
      have hkj : (othersOf qs)[j] < D.standings.length := by
        have := List.getElem_mem hj
        have := (List.mem_filter.mp this).1
        rw [List.mem_range] at this
        omega
      obtain ⟨st, hst⟩ := lt_get hkj
      obtain ⟨hl, _⟩ := g.row st (mem_get hst)
      have t9 := (t5.trans t8).trans s9
      refine ⟨_, rfl, _, rfl, _, rfl, _, _, _, rfl, D, i, _, st, SamR.mono t9 hh, ⟨wx, rfl, s9 _ _ hwx8⟩, rfl, hst, by omega, fun u H10 s10 tn10 => ?_⟩
      refine ⟨_, rfl, dN [st.getD i 0], dN [0], dp_N tn10, dp_N ⟨wy, rfl, s10 _ _ (s9 _ _ hwy8)⟩, (dok_N _).shaped (by decide), (dok_N _).shaped (by decide), _, rfl, ?_⟩
      rw [eqv_N]
      have e1 : D.standings.getD (othersOf qs)[j] [] = st := by rw [List.getD_eq_getElem?_getD, hst]; rfl
      rw [e1] at hk
      have e2 : decide ([st.getD i 0] = [0]) = (st.getD i 0 == 0) := by
        by_cases z : st.getD i 0 = 0
        · rw [z]; rfl
        · rw [decide_eq_false (fun e => z (List.cons.inj e).1), beq_eq_false_iff_ne.mpr z]
      rw [e2]
      exact hk _ s10
    · rw [nl_len] at hj
      rw [nl_getD hj]
      have ej : (othersOf qs).getD j 0 = (othersOf qs)[j] := by rw [List.getD_eq_getElem?_getD, List.getElem?_eq_getElem hj]; rfl
      rw [ej] at hk
      exact ⟨_, rfl, hk _ (Same.refl _)⟩
    · rw [nl_len, sel_eq (othersOf qs) 0 (fun k => (D.standings.getD k []).getD i 0 == 0) nV] at e9
      have e9' : H9 M = some (.lst (NL (shownAt D (othersOf qs) i))) := e9
      refine .inl ⟨M, _, rfl, SqL.of e9', fun z nz => ?_⟩
      have s10 := s9.trans (same_new (o := .tup (NL (shownAt D (othersOf qs) i))) nz)
      have e10 := s10 _ _ e8
      refine ⟨S, acc, _, rfl, rfl, e10, ?_, ?_⟩
      · have := Paired.len p7
        rw [List.length_map, List.length_range] at this
        rw [this]
        exact Nat.lt_of_lt_of_le hi (Nat.le_trans g.n6 (by decide))
      · have sm : SmI H7 (upd (upd H9 z (.tup (NL (shownAt D (othersOf qs) i)))) S (.lst (acc ++ [.ref z]))) := (smi (s8.trans s10)).trans (smi_lst e10)
        refine ⟨_, _, _, rfl, same_out ((t8.trans s10)) nS, fun x y hxy => sm _ _ trivial (tt7 x y hxy), upd_same, ?_⟩
        rw [List.range_succ, List.map_append]
        refine Paired.snoc (L2.Paired.mapP p7 fun _ _ zz => ImmR.mono sm zz) ⟨z, rfl, ?_⟩
        rw [upd_ne (fun e => by rw [e, upd_same] at e10; cases e10), upd_same]
  · subst e
    refine ⟨_, rfl, _, rfl, .inl ⟨S, acc, rfl, SqL.of e7, fun z nz => ?_⟩⟩
    have s8 := same_new (o := .tup acc) nz
    refine ⟨by show 2 ≤ sizeLine; decide, fun t nt => ?_⟩
    have s9 := s8.trans (same_new (o := .tup [.ref o, .ref z]) nt)
    refine q _ _ (t5.trans (s7.trans s9)) ⟨t, .ref o, .ref z, rfl, upd_same, ⟨o, rfl, s9 _ _ (s7 _ _ ho)⟩, ⟨z, acc, rfl, same_new nt _ _ upd_same, ?_⟩⟩
    exact L2.Paired.mapP p7 fun _ _ zz => SamR.mono s9 zz
end
end K24
set_option Elab.async false
set_option linter.all false
set_option maxRecDepth 100000
set_option maxHeartbeats 4000000
namespace K24
open PySem PySem.Spec PyProof.Rows L2
/-! ### being led -/
inductive Reach (adj : List (List Nat)) (os ss : List Nat) : Nat → Prop where
  | start {s : Nat} (h : s ∈ ss) : Reach adj os ss s
  | step {x y : Nat} (h : Reach adj os ss x) (hy : y ∈ adj.getD x []) (ho : y ∈ os) : Reach adj os ss y
structure IsLed (adj : List (List Nat)) (os ss L : List Nat) : Prop where
  sorted : L.Pairwise (· < ·)
  mem : ∀ x, x ∈ L ↔ Reach adj os ss x
def kvsOf (M : List Nat) : List (Key × V) := M.map fun n : Nat => ((Sum.inl (n : Int) : Key), V.bl true)
theorem kvs_get (M : List Nat) (x : Nat) : (valV (kvsOf M) (Sum.inl (x : Int))).isSome = decide (x ∈ M) := by
  induction M with
  | nil => rfl
  | cons m r ih =>
    have e : kvsOf (m :: r) = ((Sum.inl (m : Int) : Key), V.bl true) :: kvsOf r := rfl
    rw [e]
    by_cases h : m = x
    · subst h
      rw [valV_pos rfl]
      simp
    · have h' : ¬ ((Sum.inl (m : Int) : Key) = Sum.inl (x : Int)) := fun z => h (Int.ofNat.inj (Sum.inl.inj z))
      rw [valV_neg h', ih]
      simp [Ne.symm h, h]
theorem kvs_none {M : List Nat} {x : Nat} (h : x ∉ M) : valV (kvsOf M) (Sum.inl (x : Int)) = none := by
  have := kvs_get M x
  rw [decide_eq_false h] at this
  cases e : valV (kvsOf M) (Sum.inl (x : Int)) with
  | none => rfl
  | some v => rw [e] at this; cases this
theorem kvs_put {M : List Nat} {x : Nat} (h : x ∉ M) : putK (kvsOf M) (Sum.inl (x : Int)) (V.bl true) = kvsOf (M ++ [x]) := by
  rw [putK_new _ (kvs_none h)]
  unfold kvsOf
  rw [List.map_append]
  rfl
theorem kvs_len (M : List Nat) : (kvsOf M).length = M.length := by unfold kvsOf; simp
theorem nd_len {M : List Nat} {N : Nat} (nd : M.Nodup) (h : ∀ x ∈ M, x < N) : M.length ≤ N := by
  have := List.Nodup.length_le_of_subset nd (l₂ := List.range N) (fun x hx => List.mem_range.mpr (h x hx))
  rwa [List.length_range] at this
section
variable {P : Program} {w : World} {K : PySem.W.Frag} {mg : Str → Option Value}
/-- {x: True for x in xs} -/
theorem dc_keys {m : Nat} {u : TS} {Ed : Ends} {σ : L2.St} {i j : Nat} {H : Hp} {a : Addr} {os : List Nat} {k : Kd} (hv : σ[i]? = some (some (.ref a))) (hw : ∀ x, wipe ((wipe σ [j]).set j (some x)) [j] = wipe σ [j]) (hj : ∀ x, ((wipe σ [j]).set j (some x))[j]? = some (some x)) (ha : H a = some (k.ho (NL os))) (nd : os.Nodup) (hn : os.length ≤ 1000)
    (q : ∀ d H', H d = none → Same H H' → H' d = some (.dK (kvsOf os)) → u Ed (σ.set m (some (.ref d))) H') : tSeq (tAsg (tDc (iSeq K (tVar i)) (gName j) tYes (tVar j) (tC (.bl true)) [j]) (gName m)) u Ed σ H := by
  refine ⟨_, hv, a, NL os, k, rfl, sq_of ha, ?_⟩
  intro D nD
  refine co_go (o0 := fun _ => .dK []) (tt := tYes) (add := fun D σ2 H3 Nx => (tVar j) σ2 H3 fun y H4 => (tC (.bl true)) σ2 H4 fun z H5 => ∃ kvs k, y = kV k ∧ H5 D = some (.dK kvs) ∧ kvs.length < sizeLine ∧ Nx (upd H5 D (.dK (putK kvs k z)))) (Qd := fun H' => u Ed (σ.set m (some (.ref D))) H') (iw_seq (K := K) (p := j)) (fun i => hw _) (fun i H' => H' D = some (.dK (kvsOf (os.take i))) ∧ Same H H') ⟨upd_same, same_new nD⟩ (fun i H' _ ⟨_, s⟩ => sq_of (s _ _ ha)) (fun i H2 H3 hi ⟨e, s⟩ s' => ?_) (fun H2 ⟨e, s⟩ => ?_)
  · rw [nl_len] at hi
    rw [nl_getD hi]
    simp only [tYes, if_true]
    have hno : os[i] ∉ os.take i := fun z => by
      obtain ⟨m, hm, em⟩ := List.getElem_of_mem z
      rw [List.length_take] at hm
      rw [List.getElem_take] at em
      have := (List.getElem_inj (h₀ := by omega) (h₁ := hi) nd).mp em
      omega
    refine ⟨_, hj _, kvsOf (os.take i), Sum.inl (os[i] : Nat), rfl, s' _ _ e, ?_, ?_, same_out (s.trans s') nD⟩
    · rw [kvs_len]
      exact Nat.lt_of_le_of_lt (Nat.le_trans (List.length_take_le _ _) (by omega : i ≤ 1000)) (by decide)
    · rw [upd_same, kvs_put hno, List.take_succ, List.getElem?_eq_getElem hi]
      rfl
  · rw [nl_len, List.take_length] at e
    exact q D H2 nD s e
def sp_led_lot (K : PySem.W.Frag) : Sp := S3 fun h o s H Q _ => ∃ D n os ss, HS K H h D ∧ Gd D n ∧ TN H o os ∧ LN H s ss ∧ os.Nodup ∧ (∀ x ∈ os, x < D.standings.length) ∧ ss.Nodup ∧ (∀ x ∈ ss, x < D.standings.length) ∧ ∀ u H' L, Same H H' → TN H' u L → IsLed D.ahead os ss L → Q u H'
theorem rd_led_lot (G : Gs K mg) {vs : List V} {H : Hp} {Q : VK} {E : XK} (h : sp_led_lot K vs H Q E) : t_led_lot P w K (Dn Q) (start N_led_lot vs) H := by
  obtain ⟨hv, o, s, rfl, D, n, os, ss, hh, g, ⟨a, rfl, ha⟩, ⟨b, rfl, hb⟩, ndo, hos, nds, hss, q⟩ := h
  have h64 := g.l64
  have lo := nd_len ndo hos
  have ls := nd_len nds hss
  refine dc_keys (i := 1) (j := 7) (k := .T) rfl (fun _ => rfl) (fun _ => rfl) ha ndo (by omega) fun d1 H1 n1 s1 e1 => ?_
  refine dc_keys (i := 2) (j := 7) (k := .L) rfl (fun _ => rfl) (fun _ => rfl) (s1 _ _ hb) nds (by omega) fun d2 H2 n2 s2 e2 => ?_
  have d12 : d1 ≠ d2 := ne_of_none e1 n2
  refine ⟨_, rfl, d2, _, rfl, e2, fun W nW => ?_⟩
  have s3 := same_new (o := .lst ((kvsOf ss).map fun kv => kV kv.1)) nW
  have hw0 : ((kvsOf ss).map fun kv => kV kv.1) = NL ss := by unfold kvsOf NL; rw [List.map_map]; rfl
  rw [hw0] at s3 ⊢
  have t3 := s1.trans (s2.trans s3)
  have e1' : (upd H2 W (.lst (NL ss))) d1 = some (.dK (kvsOf os)) := s3 _ _ (s2 _ _ e1)
  have e2' : (upd H2 W (.lst (NL ss))) d2 = some (.dK (kvsOf ss)) := s3 _ _ e2
  have nW0 : H W = none := same_none (s1.trans s2) nW
  have nd20 : H d2 = none := same_none s1 n2
  obtain ⟨ad, dx, fs, sv, tv, cv, av, be, rfl, h1, h2, h3, h4, h5, h6, h7, h8, ⟨aa, avs, rfl, haa, hpa⟩, h10, h11⟩ := id hh
  -- the loop
  let Inv := fun (M Wl : List Nat) (H' : Hp) => Same H H' ∧ H' d1 = some (.dK (kvsOf os)) ∧ H' d2 = some (.dK (kvsOf M)) ∧ H' W = some (.lst (NL Wl)) ∧ M.Nodup ∧ (∀ x ∈ M, x < D.standings.length ∧ Reach D.ahead os ss x) ∧ (∀ x ∈ ss, x ∈ M) ∧ (∀ x ∈ Wl, x ∈ M) ∧ 2 * (D.standings.length - M.length) + Wl.length ≤ 200
  refine ⟨fun m σ H' => ∃ o6 M Wl, σ = [some (.ref ad), some (.ref a), some (.ref b), some (.ref d1), some (.ref d2), some (.ref W), o6, none] ∧ Inv M Wl H' ∧ (∀ x ∈ M, x ∉ Wl → ∀ y ∈ D.ahead.getD x [], y ∈ os → y ∈ M) ∧ m = 2 * (D.standings.length - M.length) + Wl.length,
    ⟨_, none, ss, ss, rfl, ⟨t3, e1', e2', upd_same, nds, fun x hx => ⟨hss x hx, .start hx⟩, fun _ h => h, fun _ h => h, by omega⟩, fun x hx hn => absurd hx hn, rfl⟩, fun m σ H4 ⟨o6, M, Wl, e, ⟨sm, i1, i2, i3, i4, i5, i6, i7, i8⟩, cl, em⟩ => ?_⟩
  subst e
  refine ⟨_, rfl, _, .inl ⟨NL Wl, SqL.of i3, rfl⟩, ?_⟩
  by_cases hW : Wl = []
  · subst hW
    refine if_f rfl ?_
    have l64 := nd_len i4 fun x hx => (i5 x hx).1
    refine ⟨_, rfl, d2, kvsOf M, M.map (fun x : Nat => (x : Int)), rfl, .inl i2, by unfold kvsOf; rw [List.map_map, List.map_map]; rfl, by rw [List.length_map]; omega, fun ys p pm pw np => ?_⟩
    have hy : ys = (ys.map Int.toNat).map fun x : Nat => (x : Int) := by
      rw [List.map_map]
      refine (List.map_id ys).symm.trans (List.map_congr_left fun y hy => ?_)
      obtain ⟨x, _, rfl⟩ := List.mem_map.mp (pm.mem_iff.mp hy)
      rfl
    generalize hL : ys.map Int.toNat = L at hy
    subst hy
    have pmL : L.Perm M := by
      have := pm.map Int.toNat
      rw [List.map_map, List.map_map] at this
      have e1 : (Int.toNat ∘ fun x : Nat => (x : Int)) = id := by funext x; rfl
      rwa [e1, List.map_id, List.map_id] at this
    refine .inl ⟨p, _, rfl, SqL.of upd_same, fun r nr => ?_⟩
    refine q _ _ L (sm.trans ((same_new np).trans (same_new nr))) ⟨r, rfl, by rw [upd_same, nl_int]⟩ ⟨?_, fun x => ?_⟩
    · have pw2 : L.Pairwise (· ≤ ·) := by
        rw [List.pairwise_map] at pw
        exact pw.imp fun h => by omega
      have nd2 : L.Pairwise (· ≠ ·) := pmL.nodup_iff.mpr i4
      exact (pw2.and nd2).imp fun ⟨h1, h2⟩ => by omega
    · constructor
      · intro hx
        exact (i5 x (pmL.mem_iff.mp hx)).2
      · intro hr
        refine pmL.mem_iff.mpr ?_
        induction hr with
        | start h => exact i6 _ h
        | step h hy ho ih => exact cl _ ih (by simp) _ hy ho
  · have hne : (NL Wl).isEmpty = false := by
      cases Wl with
      | nil => exact absurd rfl hW
      | cons x r => rfl
    refine if_t (by rw [hne]; rfl) ⟨_, fun σ' H' h => h, ?_⟩
    obtain ⟨Wi, y, rfl⟩ : ∃ Wi y, Wl = Wi ++ [y] := ⟨Wl.dropLast, Wl.getLast hW, (List.dropLast_concat_getLast hW).symm⟩
    have hyM : y ∈ M := i7 y (by simp)
    have hyN := (i5 y hyM).1
    obtain ⟨row, hrow⟩ := lt_get (xs := D.ahead) (i := y) (by rw [g.ah]; exact hyN)
    obtain ⟨rv, hrv, ra, rfl, hra⟩ := Paired.get hpa hrow
    have erow : D.ahead.getD y [] = row := by rw [List.getD_eq_getElem?_getD, hrow]; rfl
    obtain ⟨hrl, hrN⟩ := g.ahl row (mem_get hrow)
    have hwl : NL (Wi ++ [y]) = NL Wi ++ [nV y] := by unfold NL; rw [List.map_append]; rfl
    have s5 : ∀ x o, x ≠ W → H4 x = some o → (upd H4 W (.lst (NL Wi))) x = some o := fun x o hx e => by rw [upd_ne hx]; exact e
    have sW : ∀ x o, H x = some o → x ≠ W := fun x o e => ne_of_none e nW0
    refine ⟨_, rfl, ad, _, dx, fs, .ref aa, rfl, sm _ _ h1, G.cls, G.n_ahead, h8, _, rfl, .inl ⟨rfl, _, SqL.of i3⟩, W, _, nV y, rfl, rfl, i3, ?_, aa, avs, _, .ref ra, rfl, rfl, ?_, atI_nat hrv, ra, NL row, .T, rfl, ?_, ?_⟩
    · rw [hwl]
      simp
    · rw [hwl, List.dropLast_concat]
      exact SqT.of (s5 _ _ (sW _ _ haa) (sm _ _ haa))
    · rw [hwl, List.dropLast_concat]
      exact SqT.of (s5 _ _ (sW _ _ hra) (sm _ _ hra))
    rw [hwl, List.dropLast_concat]
    have sm5 : Same H (upd H4 W (.lst (NL Wi))) := same_out sm nW0
    have k1 := s5 _ _ (fun e => by rw [e, i3] at i1; cases i1) i1
    have k2 := s5 _ _ (fun e => by rw [e, i3] at i2; cases i2) i2
    have k3 : (upd H4 W (.lst (NL Wi))) W = some (.lst (NL Wi)) := upd_same
    generalize upd H4 W (.lst (NL Wi)) = H5 at sm5 k1 k2 k3 ⊢
    refine for_go (iw_seq (k := .T) (p := 6)) (fun j σ H' => ∃ o6 M' Wl', σ = [some (.ref ad), some (.ref a), some (.ref b), some (.ref d1), some (.ref d2), some (.ref W), o6, none] ∧ Inv M' Wl' H' ∧ (∀ x ∈ M', x ≠ y → x ∉ Wl' → ∀ z ∈ D.ahead.getD x [], z ∈ os → z ∈ M') ∧ (∀ z ∈ row.take j, z ∈ os → z ∈ M') ∧ y ∈ M' ∧ 2 * (D.standings.length - M'.length) + Wl'.length < m)
      ⟨_, M, Wi, rfl, ⟨sm5, k1, k2, k3, i4, i5, i6, fun x hx => i7 x (List.mem_append_left _ hx), by rw [List.length_append] at i8; simp at i8; omega⟩, fun x hx hxy hxW => cl x hx (fun z => ?_), fun z hz => ?_, hyM, ?_⟩ (fun j σ H' _ ⟨_, _, _, _, ⟨s, _⟩, _⟩ => SqT.of (s _ _ hra)) (fun j σ H6 H7 hj ⟨o6', M', Wl', e, ⟨sm6, j1, j2, j3, j4, j5, j6, j7, j8⟩, cl6, rw6, y6, m6⟩ s7 => ?_) (fun σ H6 ⟨o6', M', Wl', e, ⟨sm6, j1, j2, j3, j4, j5, j6, j7, j8⟩, cl6, rw6, y6, m6⟩ => ?_)
    · rcases List.mem_append.mp z with z | z
      · exact hxW z
      · exact hxy (by simpa using z)
    · simp at hz
    · rw [em, List.length_append]
      simp
    · subst e
      rw [nl_len] at hj
      rw [nl_getD hj]
      have hzN := hrN row[j] (List.getElem_mem hj)
      have tk : ∀ z, z ∈ row.take (j + 1) → z ∈ row.take j ∨ z = row[j] := fun z hz => by
        rw [List.take_succ, List.getElem?_eq_getElem hj] at hz
        rcases List.mem_append.mp hz with h | h
        · exact .inl h
        · exact .inr (by simpa using h)
      have j1' := s7 _ _ j1
      have j2' := s7 _ _ j2
      have j3' := s7 _ _ j3
      have sm7 := sm6.trans s7
      refine ⟨_, rfl, _, rfl, d1, _, rfl, .inl ⟨kvsOf os, Sum.inl (row[j] : Nat), .inl j1', rfl, rfl⟩, _, rfl, ?_⟩
      rw [kvs_get]
      by_cases ho : row[j] ∈ os
      · refine if_t (decide_eq_true ho) ⟨_, rfl, _, rfl, d2, _, rfl, .inl ⟨kvsOf M', Sum.inl (row[j] : Nat), .inl j2', rfl, rfl⟩, _, rfl, ?_⟩
        rw [kvs_get]
        by_cases hm : row[j] ∈ M'
        · refine if_f (by rw [decide_eq_true hm]; rfl) ⟨_, M', Wl', rfl, ⟨sm7, j1', j2', j3', j4, j5, j6, j7, j8⟩, cl6, fun z hz hzo => ?_, y6, m6⟩
          rcases tk z hz with h | h
          · exact rw6 z h hzo
          · rw [h]; exact hm
        · have ndM : (M' ++ [row[j]]).Nodup := by
            rw [List.nodup_append]
            exact ⟨j4, by simp, fun a ha b hb => by simp at hb; subst hb; exact fun z => hm (z ▸ ha)⟩
          have lM := nd_len ndM (N := D.standings.length) fun x hx => by
            rcases List.mem_append.mp hx with h | h
            · exact (j5 x h).1
            · have : x = row[j] := by simpa using h
              rw [this]; exact hzN
          rw [List.length_append] at lM
          simp at lM
          refine if_t (by rw [decide_eq_false hm]; rfl) ⟨_, rfl, _, rfl, d2, _, rfl, .inl ⟨kvsOf M', Sum.inl (row[j] : Nat), j2', rfl, by rw [kvs_len]; exact Nat.lt_of_le_of_lt (by omega : M'.length ≤ 1000) (by decide), rfl⟩, ?_⟩
          rw [kvs_put hm]
          have dW : W ≠ d2 := fun e => by rw [e, j2'] at j3'; cases j3'
          have j3'' : (upd H7 d2 (.dK (kvsOf (M' ++ [row[j]])))) W = some (.lst (NL Wl')) := by rw [upd_ne dW]; exact j3'
          refine ⟨_, rfl, .inl ⟨rfl, _, SqL.of j3''⟩, _, rfl, W, _, _, rfl, rfl, j3'', ?_, ?_⟩
          · rw [nl_len]
            exact Nat.lt_of_le_of_lt (by omega : Wl'.length ≤ 1000) (by decide)
          · refine ⟨_, M' ++ [row[j]], Wl' ++ [row[j]], rfl, ⟨same_out (same_out sm7 nd20) nW0, ?_, ?_, ?_, ndM, fun x hx => ?_, fun x hx => List.mem_append_left _ (j6 x hx), fun x hx => ?_, by simp only [List.length_append, List.length_cons, List.length_nil]; omega⟩, fun x hx hxy hxW z hz hzo => ?_, fun z hz hzo => ?_, List.mem_append_left _ y6, ?_⟩
            · rw [upd_ne (fun e => by rw [e, j3'] at j1'; cases j1'), upd_ne d12]
              exact j1'
            · rw [upd_ne (Ne.symm dW), upd_same]
            · rw [upd_same]
              unfold NL
              rw [List.map_append]
              rfl
            · rcases List.mem_append.mp hx with h | h
              · exact j5 x h
              · have : x = row[j] := by simpa using h
                rw [this]
                exact ⟨hzN, .step (j5 y y6).2 (by rw [erow]; exact List.getElem_mem hj) ho⟩
            · rcases List.mem_append.mp hx with h | h
              · exact List.mem_append_left _ (j7 x h)
              · exact List.mem_append_right _ h
            · rcases List.mem_append.mp hx with h | h
              · exact List.mem_append_left _ (cl6 x h hxy (fun z => hxW (List.mem_append_left _ z)) z hz hzo)
              · exact absurd (List.mem_append_right _ h) hxW
            · rcases tk z hz with h | h
              · exact List.mem_append_left _ (rw6 z h hzo)
              · rw [h]; simp
            · simp only [List.length_append, List.length_cons, List.length_nil]
              omega
      · refine if_f (decide_eq_false ho) ?_
        refine if_f rfl ⟨_, M', Wl', rfl, ⟨sm7, j1', j2', j3', j4, j5, j6, j7, j8⟩, cl6, fun z hz hzo => ?_, y6, m6⟩
        rcases tk z hz with h | h
        · exact rw6 z h hzo
        · rw [h] at hzo; exact absurd hzo ho
    · subst e
      rw [nl_len, List.take_length] at rw6
      refine ⟨_, m6, o6', M', Wl', rfl, ⟨sm6, j1, j2, j3, j4, j5, j6, j7, j8⟩, fun x hx hxW z hz hzo => ?_, rfl⟩
      by_cases hxy : x = y
      · rw [hxy, erow] at hz
        exact rw6 z hz hzo
      · exact cl6 x hx hxy hxW z hz hzo
end
end K24
set_option Elab.async false
set_option linter.all false
set_option maxRecDepth 100000
set_option maxHeartbeats 4000000
namespace K24
open PySem PySem.Spec PyProof.Rows L2
open Classical in
noncomputable def ledF (N : Nat) (adj : List (List Nat)) (os ss : List Nat) : List Nat := (List.range N).filter fun x => decide (Reach adj os ss x)
theorem sorted_eq : ∀ {a b : List Nat}, a.Pairwise (· < ·) → b.Pairwise (· < ·) → (∀ x, x ∈ a ↔ x ∈ b) → a = b
  | [], [], _, _, _ => rfl
  | [], y :: q, _, _, h => absurd ((h y).mpr List.mem_cons_self) (by simp)
  | x :: r, [], _, _, h => absurd ((h x).mp List.mem_cons_self) (by simp)
  | x :: r, y :: q, ha, hb, h => by
    rw [List.pairwise_cons] at ha hb
    have e : x = y := by
      have h1 := (h x).mp List.mem_cons_self
      have h2 := (h y).mpr List.mem_cons_self
      rcases List.mem_cons.mp h1 with h1 | h1
      · exact h1
      · rcases List.mem_cons.mp h2 with h2 | h2
        · exact h2.symm
        · have := hb.1 x h1
          have := ha.1 y h2
          omega
    subst e
    rw [sorted_eq ha.2 hb.2 fun z => ?_]
    constructor
    · intro hz
      have := ha.1 z hz
      rcases List.mem_cons.mp ((h z).mp (List.mem_cons_of_mem _ hz)) with h1 | h1
      · omega
      · exact h1
    · intro hz
      have := hb.1 z hz
      rcases List.mem_cons.mp ((h z).mpr (List.mem_cons_of_mem _ hz)) with h1 | h1
      · omega
      · exact h1
theorem reach_lt {adj : List (List Nat)} {os ss : List Nat} {N x : Nat} (ho : ∀ x ∈ os, x < N) (hs : ∀ x ∈ ss, x < N) (h : Reach adj os ss x) : x < N := by
  cases h with
  | start h => exact hs _ h
  | step h hy ho' => exact ho _ ho'
open Classical in
theorem ledF_is {adj : List (List Nat)} {os ss : List Nat} {N : Nat} (ho : ∀ x ∈ os, x < N) (hs : ∀ x ∈ ss, x < N) : IsLed adj os ss (ledF N adj os ss) := by
  refine ⟨?_, fun x => ?_⟩
  · unfold ledF
    exact List.Pairwise.filter _ List.pairwise_lt_range
  · unfold ledF
    rw [List.mem_filter, List.mem_range, decide_eq_true_iff]
    exact ⟨fun h => h.2, fun h => ⟨reach_lt ho hs h, h⟩⟩
theorem IsLed.eq {adj : List (List Nat)} {os ss L : List Nat} {N : Nat} (ho : ∀ x ∈ os, x < N) (hs : ∀ x ∈ ss, x < N) (h : IsLed adj os ss L) : L = ledF N adj os ss :=
  sorted_eq h.sorted (ledF_is ho hs).sorted fun x => (h.mem x).trans ((ledF_is ho hs).mem x).symm
/-- what is left of the lot l where sh is shown -/
noncomputable def leftF (D : HD) (os sh l : List Nat) : List Nat := ledF D.standings.length D.ahead os (l.filter fun x => decide (x ∈ sh))
theorem ledF_nd (N : Nat) (adj : List (List Nat)) (os ss : List Nat) : (ledF N adj os ss).Nodup := by
  unfold ledF
  exact List.Pairwise.filter _ List.nodup_range
theorem ledF_lt {N : Nat} {adj : List (List Nat)} {os ss : List Nat} {x : Nat} (h : x ∈ ledF N adj os ss) : x < N := by
  unfold ledF at h
  exact List.mem_range.mp (List.mem_filter.mp h).1
open Classical in
theorem leftF_nil (D : HD) (os sh : List Nat) : leftF D os sh [] = [] := by
  unfold leftF ledF
  refine List.filter_eq_nil_iff.mpr fun x _ h => ?_
  have h := of_decide_eq_true h
  have : ∀ y, Reach D.ahead os (List.filter (fun x => decide (x ∈ sh)) []) y → False := fun y r => by
    induction r with
    | start h => simp at h
    | step _ _ _ ih => exact ih
  exact this x h
theorem inV_nl (k : Nat) (sh : List Nat) : inV (nV k) (NL sh) = decide (k ∈ sh) := by
  unfold inV NL
  rw [List.any_map]
  by_cases h : k ∈ sh
  · rw [decide_eq_true h]
    refine List.any_eq_true.mpr ⟨k, h, ?_⟩
    show ((k : Int) == (k : Int)) = true
    exact beq_self_eq_true _
  · rw [decide_eq_false h]
    refine Bool.eq_false_iff.mpr fun z => ?_
    obtain ⟨y, hy, e⟩ := List.any_eq_true.mp z
    have e2 : ((y : Int) == (k : Int)) = true := e
    have := Int.ofNat.inj (beq_iff_eq.mp e2)
    subst this
    exact h hy
theorem flat_nl (sh : List Nat) : (NL sh).all flatV = true := by
  unfold NL
  rw [List.all_map]
  exact List.all_eq_true.mpr fun x _ => rfl
section
variable {P : Program} {w : World} {K : PySem.W.Frag} {mg : Str → Option Value}
/-- lots: within the numbers, no number twice -/
structure LotOk (D : HD) (l : List Nat) : Prop where
  nd : l.Nodup
  lt : ∀ x ∈ l, x < D.standings.length
theorem left_ok (D : HD) (os sh l : List Nat) : LotOk D (leftF D os sh l) := ⟨ledF_nd _ _ _ _, fun x hx => ledF_lt hx⟩
def sp_left_lot (K : PySem.W.Frag) : Sp := S4 fun h o s l H Q _ => ∃ D n os sh ls, HS K H h D ∧ Gd D n ∧ TN H o os ∧ TN H s sh ∧ TN H l ls ∧ LotOk D os ∧ LotOk D ls ∧ ∀ u H', Same H H' → TN H' u (leftF D os sh ls) → Q u H'
theorem rd_left_lot {vs : List V} {H : Hp} {Q : VK} {E : XK} (h : sp_left_lot K vs H Q E) : t_left_lot P w K (sp_led_lot K) (Dn Q) (start N_left_lot vs) H := by
  obtain ⟨h, o, s, l, rfl, D, n, os, sh, ls, hh, g, ho, ⟨b, rfl, hb⟩, ⟨c, rfl, hc⟩, oko, okl, q⟩ := h
  have h64 := g.l64
  have ll := nd_len okl.nd okl.lt
  refine ⟨_, rfl, _, rfl, _, rfl, c, NL ls, .T, rfl, SqT.of hc, ?_⟩
  intro M nM
  refine lc_sel nM (iw_seq (k := .T) (p := 4)) (fun _ => rfl) (by rw [nl_len]; omega) (fun H2 s2 => SqT.of (s2 _ _ hc)) (fun j => decide (ls.getD j 0 ∈ sh)) (fun j => nV (ls.getD j 0)) (fun j H2 hj s2 Qk hk => ?_) (fun j H2 hj s2 hpj Qk hk => ?_) (fun H2 s2 e2 => ?_)
  · rw [nl_len] at hj
    rw [nl_getD hj]
    have ej : ls.getD j 0 = ls[j] := by rw [List.getD_eq_getElem?_getD, List.getElem?_eq_getElem hj]; rfl
    rw [ej] at hk
    refine ⟨_, rfl, _, rfl, b, NL sh, rfl, .inr (SqT.of (s2 _ _ hb)), rfl, flat_nl sh, _, rfl, ?_⟩
    show Qk (inV (nV ls[j]) (NL sh)) H2
    rw [inV_nl]
    exact hk _ (Same.refl _)
  · rw [nl_len] at hj
    rw [nl_getD hj]
    have ej : ls.getD j 0 = ls[j] := by rw [List.getD_eq_getElem?_getD, List.getElem?_eq_getElem hj]; rfl
    rw [ej] at hk
    exact ⟨_, rfl, hk _ (Same.refl _)⟩
  · rw [nl_len, sel_eq ls 0 (fun k => decide (k ∈ sh)) nV] at e2
    have hs : ∀ x ∈ ls.filter (fun x => decide (x ∈ sh)), x < D.standings.length := fun x hx => okl.lt x (List.mem_filter.mp hx).1
    refine ⟨_, _, _, rfl, D, n, os, ls.filter fun x => decide (x ∈ sh), SamR.mono s2 hh, g, SamR.mono s2 ho, ⟨M, rfl, e2⟩, oko.nd, oko.lt, List.Pairwise.filter _ okl.nd, hs, fun u H3 L s3 hu hL => ?_⟩
    rw [hL.eq oko.lt hs] at hu
    exact q u H3 (s2.trans s3) hu
def sp_need_length : Sp := S1 fun v H Q _ => ∃ n : Nat, v = nV n ∧ Q v H
theorem rd_need_length {vs : List V} {H : Hp} {Q : VK} {E : XK} (h : sp_need_length vs H Q E) : t_need_length P w K sp_is_number (Dn Q) (start N_need_length vs) H := by
  obtain ⟨v, rfl, n, rfl, q⟩ := h
  exact ⟨_, rfl, _, rfl, .inl ⟨_, rfl, _, rfl, if_f (by simp) ⟨_, rfl, q⟩⟩⟩
def sp_need_letters : Sp := S1 fun v H Q _ => ∃ ws, SN H v ws ∧ ws.length ≤ 1000 ∧ ∀ u H', Same H H' → TN H' u ws → Q u H'
theorem rd_need_letters {vs : List V} {H : Hp} {Q : VK} {E : XK} (h : sp_need_letters vs H Q E) : t_need_letters P w K sp_is_sequence sp_is_number (Dn Q) (start N_need_letters vs) H := by
  obtain ⟨v, rfl, ws, hv, hl, q⟩ := h
  have hv0 := hv
  obtain ⟨k, a, rfl, ha⟩ := hv
  refine ⟨_, rfl, _, rfl, true, seq_of ha, fun H1 s1 => ⟨true, rfl, if_f rfl ?_⟩⟩
  refine ⟨_, rfl, a, NL ws, k, rfl, sq_of (s1 _ _ ha), ?_⟩
  intro D nD
  refine lc_all nD (iw_seq (p := 1)) (fun _ => rfl) (by rw [nl_len]; omega) (fun H2 s2 => sq_of (s2 _ _ (s1 _ _ ha))) (fun i H2 hi s2 Qk hk => ?_) (fun H2 s2 e2 => ⟨D, List.replicate (NL ws).length true, rfl, SqL.of e2, ?_⟩)
  · rw [nl_len] at hi
    rw [nl_getD hi]
    refine ⟨_, rfl, _, rfl, .inl ⟨_, rfl, ?_⟩⟩
    rw [decide_eq_true (Int.natCast_nonneg _)]
    exact hk _ (Same.refl _)
  · rw [all_rep]
    exact ⟨true, rfl, if_f rfl ⟨_, rfl, kTup_SN (SamR.mono (s1.trans s2) hv0) fun u H3 s3 t3 => q u H3 ((s1.trans s2).trans s3) t3⟩⟩
/-- one look's way in a told word -/
def mv1 (ls : List Nat) (p x : Nat) : Nat := if ls[p]? = some x then p + 1 else p
def sp_has_scattered : Sp := S2 fun v l H Q _ => ∃ ws ls, SN H v ws ∧ SN H l ls ∧ ws.length ≤ 1000 ∧ ls.length ≤ 1000 ∧ ∀ H', Same H H' → Q (.bl (decide (ws.foldl (mv1 ls) 0 = ls.length))) H'
theorem rd_has_scattered {vs : List V} {H : Hp} {Q : VK} {E : XK} (h : sp_has_scattered vs H Q E) : t_has_scattered P w K sp_need_letters (Dn Q) (start N_has_scattered vs) H := by
  obtain ⟨v, l, rfl, ws, ls, hv, hl, lw, llen, q⟩ := h
  refine ⟨_, rfl, _, rfl, ws, hv, lw, fun u1 H1 s1 t1 => ?_⟩
  refine ⟨_, rfl, _, rfl, ls, SamR.mono s1 hl, llen, fun u2 H2 s2 t2 => ?_⟩
  obtain ⟨a, rfl, ha⟩ := SamR.mono s2 t1
  obtain ⟨b, rfl, hb⟩ := t2
  refine ⟨_, _, rfl, ?_⟩
  refine ⟨_, rfl, a, NL ws, .T, rfl, SqT.of ha, ?_⟩
  refine for_go (iw_seq (k := .T) (p := 3)) (fun i σ H' => ∃ o3, σ = [some (.ref a), some (.ref b), some (nV ((ws.take i).foldl (mv1 ls) 0)), o3] ∧ Same H2 H') ⟨_, rfl, Same.refl _⟩ (fun i σ H' _ ⟨_, _, s⟩ => SqT.of (s _ _ ha)) (fun i σ H3 H4 hi ⟨o3, e, s3⟩ s4 => ?_) (fun σ H3 ⟨o3, e, s3⟩ => ?_)
  · subst e
    rw [nl_len] at hi
    rw [nl_getD hi]
    have s5 := s3.trans s4
    have tk : (ws.take (i + 1)).foldl (mv1 ls) 0 = mv1 ls ((ws.take i).foldl (mv1 ls) 0) ws[i] := by
      rw [List.take_succ, List.getElem?_eq_getElem hi, List.foldl_append]
      rfl
    generalize (ws.take i).foldl (mv1 ls) 0 = p at tk ⊢
    rw [tk]
    refine ⟨_, rfl, _, rfl, _, _, rfl, .inr (SqT.of (s5 _ _ hb)), _, _, rfl, rfl, _, rfl, ?_⟩
    rw [nl_len]
    by_cases hp : p < ls.length
    · refine if_t (decide_eq_true (by omega)) ⟨_, rfl, _, rfl, _, rfl, b, _, _, nV ls[p], rfl, rfl, SqT.of (s5 _ _ hb), atI_nat (nl_get (by simp [hp])), rfl, _, rfl, ?_⟩
      by_cases hx : ws[i] = ls[p]
      · refine if_t (decide_eq_true (by rw [hx])) ⟨_, rfl, _, _, rfl, rfl, some (nV ws[i]), ?_, s5⟩
        rw [show mv1 ls p ws[i] = p + 1 by unfold mv1; rw [if_pos (by rw [List.getElem?_eq_getElem hp, hx])]]
        rfl
      · refine if_f (decide_eq_false fun e => hx (Int.ofNat.inj (V.int.inj e))) ⟨some (nV ws[i]), ?_, s5⟩
        rw [show mv1 ls p ws[i] = p by unfold mv1; rw [if_neg (by rw [List.getElem?_eq_getElem hp]; exact fun e => hx (Option.some.inj e).symm)]]
        rfl
    · refine if_f (decide_eq_false (by omega)) (if_f rfl ⟨some (nV ws[i]), ?_, s5⟩)
      rw [show mv1 ls p ws[i] = p by unfold mv1; rw [if_neg (by rw [List.getElem?_eq_none (by omega)]; exact fun e => nomatch e)]]
      rfl
  · subst e
    rw [nl_len, List.take_length]
    refine ⟨_, rfl, _, rfl, _, _, rfl, .inr (SqT.of (s3 _ _ hb)), rfl, ?_⟩
    rw [nl_len]
    have : decide (nV (ws.foldl (mv1 ls) 0) = V.int (ls.length : Int)) = decide (ws.foldl (mv1 ls) 0 = ls.length) :=
      decide_eq_decide.mpr ⟨fun e => Int.ofNat.inj (V.int.inj e), fun e => by rw [e]⟩
    show Q (.bl (decide (nV (ws.foldl (mv1 ls) 0) = V.int (ls.length : Int)))) H3
    rw [this]
    exact q _ ((s1.trans s2).trans s3)
end
end K24
set_option linter.all false
/-! Plain mathematics: automata, shortest words, counts. -/
namespace Mt
/-! ### words over letters below k, a deterministic automaton -/
section
variable {S : Type} (step : S → Nat → S) (k : Nat)
def run (s : S) (u : List Nat) : S := u.foldl step s
def Ok (u : List Nat) : Prop := ∀ x ∈ u, x < k
/-- u is the least of the shortest words that lead from s to what P tells -/
structure Best (P : S → Prop) (s : S) (u : List Nat) : Prop where
  ok : Ok k u
  hit : P (run step s u)
  short : ∀ v, Ok k v → P (run step s v) → u.length ≤ v.length
  least : ∀ v, Ok k v → P (run step s v) → v.length = u.length → u ≤ v
theorem Best.uniq {P : S → Prop} {s : S} {u v : List Nat} (a : Best step k P s u) (b : Best step k P s v) : u = v := by
  have h1 := a.short v b.ok b.hit
  have h2 := b.short u a.ok a.hit
  have h3 := a.least v b.ok b.hit (by omega)
  have h4 := b.least u a.ok a.hit (by omega)
  exact List.le_antisymm h3 h4
theorem run_nil (s : S) : run step s [] = s := rfl
theorem run_snoc (s : S) (u : List Nat) (x : Nat) : run step s (u ++ [x]) = step (run step s u) x := by
  unfold run
  rw [List.foldl_append]
  rfl
theorem run_app (s : S) (u v : List Nat) : run step s (u ++ v) = run step (run step s u) v := by
  unfold run
  rw [List.foldl_append]
theorem Ok.snoc {u : List Nat} {x : Nat} (h : Ok k u) (hx : x < k) : Ok k (u ++ [x]) := by
  intro y hy
  rcases List.mem_append.mp hy with h1 | h1
  · exact h y h1
  · have e : y = x := by simpa using h1
    omega
theorem Ok.of_snoc {u : List Nat} {x : Nat} (h : Ok k (u ++ [x])) : Ok k u ∧ x < k :=
  ⟨fun y hy => h y (by simp [hy]), h x (by simp)⟩
theorem snoc_of {v : List Nat} {n : Nat} (h : v.length = n + 1) : ∃ u x, v = u ++ [x] ∧ u.length = n := by
  have hne : v ≠ [] := by
    intro e
    rw [e] at h
    cases h
  refine ⟨v.dropLast, v.getLast hne, (List.dropLast_concat_getLast hne).symm, ?_⟩
  rw [List.length_dropLast]
  omega
/-! ### the order of words of one length -/
theorem lt_append_of_lt : ∀ {u v : List Nat} (a b : List Nat), u.length = v.length → u < v → u ++ a < v ++ b
  | [], [], _, _, _, h => absurd h (List.lt_irrefl _)
  | [], _ :: _, _, _, h, _ => by cases h
  | _ :: _, [], _, _, h, _ => by cases h
  | x :: u, y :: v, a, b, h, l => by
    rcases List.cons_lt_cons_iff.mp l with h1 | ⟨h1, h2⟩
    · exact List.cons_lt_cons_iff.mpr (Or.inl h1)
    · refine List.cons_lt_cons_iff.mpr (Or.inr ⟨h1, lt_append_of_lt a b ?_ h2⟩)
      simpa using h
theorem lt_or_eq_of_le {u v : List Nat} (h : u ≤ v) : u < v ∨ u = v := by
  by_cases e : u = v
  · exact Or.inr e
  · left
    rcases List.le_total u v with _ | h2
    · rcases Classical.em (u < v) with h3 | h3
      · exact h3
      · exact absurd (List.le_antisymm h (List.not_lt.mp h3)) e
    · exact absurd (List.le_antisymm h h2) e
theorem app_le_of_le {u v : List Nat} {a b : List Nat} (hl : u.length = v.length) (h : u ≤ v) (hab : a ≤ b) : u ++ a ≤ v ++ b := by
  rcases lt_or_eq_of_le h with h1 | h1
  · exact List.le_of_lt (lt_append_of_lt a b hl h1)
  · subst h1
    clear h hl
    induction u with
    | nil => exact hab
    | cons x u ih =>
      refine List.not_lt.mp fun q => ?_
      rcases List.cons_lt_cons_iff.mp q with h2 | ⟨_, h2⟩
      · exact absurd h2 (Nat.lt_irrefl _)
      · exact absurd h2 (List.not_lt.mpr ih)
theorem one_le {x y : Nat} (h : x ≤ y) : ([x] : List Nat) ≤ [y] := by
  refine List.not_lt.mp fun q => ?_
  rcases List.cons_lt_cons_iff.mp q with h2 | ⟨_, h2⟩
  · omega
  · exact absurd h2 (List.lt_irrefl _)
theorem one_lt {x y : Nat} (h : x < y) : ([x] : List Nat) < [y] := List.cons_lt_cons_iff.mpr (Or.inl h)
theorem app_lt_same {u : List Nat} {x y : Nat} (h : x < y) : u ++ [x] < u ++ [y] := by
  induction u with
  | nil => exact one_lt h
  | cons z u ih => exact List.cons_lt_cons_iff.mpr (Or.inr ⟨rfl, ih⟩)
end
/-! ### layers of words, each state once -/
section
variable {S : Type} (step : S → Nat → S) (k : Nat) (s0 : S) (fin : S → Prop)
structure Bfs (m : Nat) (met : List S) (layer : List (S × List Nat)) : Prop where
  ent : ∀ e ∈ layer, Ok k e.2 ∧ e.2.length = m ∧ run step s0 e.2 = e.1
  asc : layer.Pairwise (fun a b => a.2 < b.2)
  keys : ∀ s, s ∈ met ↔ ∃ v, Ok k v ∧ v.length ≤ m ∧ run step s0 v = s
  no : ∀ v, Ok k v → v.length ≤ m → ¬ fin (run step s0 v)
  full : ∀ v, Ok k v → v.length = m → (∃ v', Ok k v' ∧ v'.length < m ∧ run step s0 v' = run step s0 v) ∨ ∃ u, (run step s0 v, u) ∈ layer ∧ u ≤ v
def Bef (i j i' j' : Nat) : Prop := i' < i ∨ (i' = i ∧ j' < j)
structure Mid (m : Nat) (met : List S) (layer : List (S × List Nat)) (i j : Nat) (met' : List S) (fol : List (S × List Nat)) : Prop where
  ent : ∀ e ∈ fol, Ok k e.2 ∧ e.2.length = m + 1 ∧ run step s0 e.2 = e.1
  asc : fol.Pairwise (fun a b => a.2 < b.2)
  src : ∀ e ∈ fol, ∃ i' j' c, layer[i']? = some c ∧ e.2 = c.2 ++ [j'] ∧ Bef i j i' j'
  keys : ∀ s, s ∈ met' ↔ s ∈ met ∨ ∃ u, (s, u) ∈ fol
  done : ∀ i' j' c, layer[i']? = some c → j' < k → Bef i j i' j' → ¬ fin (step c.1 j') ∧ (step c.1 j' ∈ met ∨ ∃ u, (step c.1 j', u) ∈ fol ∧ u ≤ c.2 ++ [j'])
variable {step k s0 fin}
variable {m : Nat} {met met' : List S} {layer fol : List (S × List Nat)} {i j : Nat} {c : S × List Nat}
theorem bfs_start (h : ¬ fin s0) : Bfs step k s0 fin 0 [s0] [(s0, [])] where
  ent := fun e he => by
    have e1 : e = (s0, []) := by simpa using he
    subst e1
    exact ⟨fun x hx => (by cases hx), rfl, rfl⟩
  asc := List.pairwise_singleton _ _
  keys := fun s => by
    constructor
    · intro hs
      have e1 : s = s0 := by simpa using hs
      exact ⟨[], fun x hx => (by cases hx), Nat.le_refl _, e1.symm⟩
    · rintro ⟨v, _, hl, hr⟩
      have e1 : v = [] := List.length_eq_zero_iff.mp (by omega)
      subst e1
      have e2 : s0 = s := hr
      simp [e2]
  no := fun v _ hl => by
    have e1 : v = [] := List.length_eq_zero_iff.mp (by omega)
    subst e1
    exact h
  full := fun v _ hl => by
    have e1 : v = [] := List.length_eq_zero_iff.mp hl
    subst e1
    exact Or.inr ⟨[], by simp [run_nil], List.le_refl _⟩
theorem mid_start : Mid step k s0 fin m met layer 0 0 met [] where
  ent := fun e he => by cases he
  asc := List.Pairwise.nil
  src := fun e he => by cases he
  keys := fun s => ⟨Or.inl, fun h => h.elim id fun ⟨u, hu⟩ => by cases hu⟩
  done := fun i' j' c _ _ hb => by
    rcases hb with h | ⟨_, h⟩ <;> omega
theorem mid_row (M : Mid step k s0 fin m met layer i k met' fol) : Mid step k s0 fin m met layer (i + 1) 0 met' fol where
  ent := M.ent
  asc := M.asc
  src := fun e he => by
    obtain ⟨i', j', c, h1, h2, h3⟩ := M.src e he
    exact ⟨i', j', c, h1, h2, by rcases h3 with h | ⟨h, _⟩ <;> exact Or.inl (by omega)⟩
  keys := M.keys
  done := fun i' j' c h1 h2 h3 => M.done i' j' c h1 h2 (by
    rcases h3 with h | ⟨_, h⟩
    · by_cases e : i' = i
      · exact Or.inr ⟨e, h2⟩
      · exact Or.inl (by omega)
    · omega)
/-- an earlier word is less than a later one -/
theorem Bfs.before (B : Bfs step k s0 fin m met layer) (hc : layer[i]? = some c) {i' j' : Nat} {c' : S × List Nat} (hc' : layer[i']? = some c') (hb : Bef i j i' j') : c'.2 ++ [j'] < c.2 ++ [j] := by
  rcases hb with h | ⟨h, h2⟩
  · obtain ⟨l1, e1⟩ := List.getElem?_eq_some_iff.mp hc
    obtain ⟨l2, e2⟩ := List.getElem?_eq_some_iff.mp hc'
    have h3 := List.pairwise_iff_getElem.mp B.asc i' i l2 l1 h
    rw [e1, e2] at h3
    refine lt_append_of_lt _ _ ?_ h3
    rw [(B.ent c (List.mem_of_getElem? hc)).2.1, (B.ent c' (List.mem_of_getElem? hc')).2.1]
  · subst h
    rw [hc'] at hc
    cases hc
    exact app_lt_same h2
theorem bef_succ {i' j' : Nat} (h : Bef i (j + 1) i' j') : Bef i j i' j' ∨ (i' = i ∧ j' = j) := by
  unfold Bef at *
  omega
theorem bef_mono {i' j' : Nat} (h : Bef i j i' j') : Bef i (j + 1) i' j' := by
  unfold Bef at *
  omega
theorem mid_old (B : Bfs step k s0 fin m met layer) (M : Mid step k s0 fin m met layer i j met' fol) (hc : layer[i]? = some c) (hf : ¬ fin (step c.1 j)) (hm : step c.1 j ∈ met') :
    Mid step k s0 fin m met layer i (j + 1) met' fol where
  ent := M.ent
  asc := M.asc
  src := fun e he => by
    obtain ⟨i', j', c', h1, h2, h3⟩ := M.src e he
    exact ⟨i', j', c', h1, h2, bef_mono h3⟩
  keys := M.keys
  done := fun i' j' c' h1 h2 h3 => by
    rcases bef_succ h3 with h4 | ⟨h4, h5⟩
    · exact M.done i' j' c' h1 h2 h4
    · subst h4 h5
      rw [hc] at h1
      cases h1
      refine ⟨hf, ?_⟩
      rcases (M.keys _).mp hm with h | ⟨u, hu⟩
      · exact Or.inl h
      · refine Or.inr ⟨u, hu, ?_⟩
        obtain ⟨i2, j2, c2, g1, g2, g3⟩ := M.src _ hu
        have g4 := B.before hc g1 g3
        have g5 : u = c2.2 ++ [j2] := g2
        rw [g5]
        exact List.le_of_lt g4
theorem mid_new (B : Bfs step k s0 fin m met layer) (M : Mid step k s0 fin m met layer i j met' fol) (hc : layer[i]? = some c) (hj : j < k) (hf : ¬ fin (step c.1 j)) :
    Mid step k s0 fin m met layer i (j + 1) (met' ++ [step c.1 j]) (fol ++ [(step c.1 j, c.2 ++ [j])]) where
  ent := fun e he => by
    rcases List.mem_append.mp he with h | h
    · exact M.ent e h
    · have e1 : e = (step c.1 j, c.2 ++ [j]) := by simpa using h
      subst e1
      obtain ⟨h1, h2, h3⟩ := B.ent c (List.mem_of_getElem? hc)
      refine ⟨h1.snoc k hj, ?_, ?_⟩
      · show (c.2 ++ [j]).length = m + 1
        rw [List.length_append, h2]
        rfl
      · show run step s0 (c.2 ++ [j]) = step c.1 j
        rw [run_snoc, h3]
  asc := by
    refine List.pairwise_append.mpr ⟨M.asc, List.pairwise_singleton _ _, fun a ha b hb => ?_⟩
    have e1 : b = (step c.1 j, c.2 ++ [j]) := by simpa using hb
    subst e1
    obtain ⟨i', j', c', h1, h2, h3⟩ := M.src a ha
    rw [h2]
    exact B.before hc h1 h3
  src := fun e he => by
    rcases List.mem_append.mp he with h | h
    · obtain ⟨i', j', c', h1, h2, h3⟩ := M.src e h
      exact ⟨i', j', c', h1, h2, bef_mono h3⟩
    · have e1 : e = (step c.1 j, c.2 ++ [j]) := by simpa using h
      subst e1
      exact ⟨i, j, c, hc, rfl, Or.inr ⟨rfl, by omega⟩⟩
  keys := fun s => by
    rw [List.mem_append, M.keys]
    constructor
    · rintro ((h | ⟨u, hu⟩) | h)
      · exact Or.inl h
      · exact Or.inr ⟨u, List.mem_append_left _ hu⟩
      · have e1 : s = step c.1 j := by simpa using h
        subst e1
        exact Or.inr ⟨_, List.mem_append_right _ (List.mem_singleton.mpr rfl)⟩
    · rintro (h | ⟨u, hu⟩)
      · exact Or.inl (Or.inl h)
      · rcases List.mem_append.mp hu with h | h
        · exact Or.inl (Or.inr ⟨u, h⟩)
        · have e1 : (s, u) = (step c.1 j, c.2 ++ [j]) := by simpa using h
          exact Or.inr (by simp [(Prod.mk.inj e1).1])
  done := fun i' j' c' h1 h2 h3 => by
    rcases bef_succ h3 with h4 | ⟨h4, h5⟩
    · obtain ⟨g1, g2⟩ := M.done i' j' c' h1 h2 h4
      refine ⟨g1, g2.elim Or.inl fun ⟨u, hu, hl⟩ => Or.inr ⟨u, List.mem_append_left _ hu, hl⟩⟩
    · subst h4 h5
      rw [hc] at h1
      cases h1
      exact ⟨hf, Or.inr ⟨_, List.mem_append_right _ (List.mem_singleton.mpr rfl), List.le_refl _⟩⟩
theorem mid_found (B : Bfs step k s0 fin m met layer) (M : Mid step k s0 fin m met layer i j met' fol) (hc : layer[i]? = some c) (hj : j < k) (hf : fin (step c.1 j)) : Best step k fin s0 (c.2 ++ [j]) := by
  obtain ⟨h1, h2, h3⟩ := B.ent c (List.mem_of_getElem? hc)
  have hl : (c.2 ++ [j]).length = m + 1 := by
    rw [List.length_append, h2]
    rfl
  refine ⟨h1.snoc k hj, by rw [run_snoc, h3]; exact hf, fun v hv hp => ?_, fun v hv hp hvl => ?_⟩
  · rw [hl]
    rcases Nat.lt_or_ge m v.length with h | h
    · exact h
    · exact absurd hp (B.no v hv h)
  · obtain ⟨v', y, rfl, hv'⟩ := snoc_of (hvl.trans hl)
    obtain ⟨o1, o2⟩ := hv.of_snoc k
    rw [run_snoc] at hp
    rcases B.full v' o1 hv' with ⟨v2, p1, p2, p3⟩ | ⟨u, p1, p2⟩
    · have q := B.no (v2 ++ [y]) (p1.snoc k o2) (by rw [List.length_append]; simp; omega)
      rw [run_snoc, p3] at q
      exact absurd hp q
    · obtain ⟨i', hi'⟩ := List.mem_iff_getElem?.mp p1
      have hb : ¬ Bef i j i' y := fun hb => (M.done i' y _ hi' o2 hb).1 hp
      have hle : c.2 ++ [j] ≤ u ++ [y] := by
        rcases Nat.lt_trichotomy i i' with q | q | q
        · exact List.le_of_lt (B.before (j := y) hi' hc (Or.inl q))
        · subst q
          rw [hc] at hi'
          cases hi'
          have hy : j ≤ y := by
            unfold Bef at hb
            omega
          exact app_le_of_le rfl (List.le_refl _) (one_le hy)
        · exact absurd (Or.inl q) hb
      refine List.le_trans hle (app_le_of_le ?_ p2 (List.le_refl _))
      rw [(B.ent _ p1).2.1, hv']
theorem mid_end (B : Bfs step k s0 fin m met layer) (M : Mid step k s0 fin m met layer layer.length 0 met' fol) : Bfs step k s0 fin (m + 1) met' fol := by
  have key : ∀ v, Ok k v → v.length = m + 1 → (¬ fin (run step s0 v)) ∧ ((∃ v', Ok k v' ∧ v'.length ≤ m ∧ run step s0 v' = run step s0 v) ∨ ∃ u, (run step s0 v, u) ∈ fol ∧ u ≤ v) := by
    intro v hv hvl
    obtain ⟨v', y, rfl, hv'⟩ := snoc_of hvl
    obtain ⟨o1, o2⟩ := hv.of_snoc k
    rcases B.full v' o1 hv' with ⟨v2, p1, p2, p3⟩ | ⟨u, p1, p2⟩
    · have hlen : (v2 ++ [y]).length ≤ m := by rw [List.length_append]; simp; omega
      have e : run step s0 (v2 ++ [y]) = run step s0 (v' ++ [y]) := by rw [run_snoc, run_snoc, p3]
      exact ⟨by rw [← e]; exact B.no _ (p1.snoc k o2) hlen, Or.inl ⟨_, p1.snoc k o2, hlen, e⟩⟩
    · obtain ⟨i', hi'⟩ := List.mem_iff_getElem?.mp p1
      have hlt : i' < layer.length := (List.getElem?_eq_some_iff.mp hi').1
      obtain ⟨g1, g2⟩ := M.done i' y _ hi' o2 (Or.inl hlt)
      rw [run_snoc]
      refine ⟨g1, ?_⟩
      rcases g2 with g2 | ⟨w, g2, g3⟩
      · obtain ⟨v3, q1, q2, q3⟩ := (B.keys _).mp g2
        exact Or.inl ⟨v3, q1, q2, q3⟩
      · refine Or.inr ⟨w, g2, List.le_trans g3 (app_le_of_le ?_ p2 (List.le_refl _))⟩
        rw [(B.ent _ p1).2.1, hv']
  refine ⟨M.ent, M.asc, fun s => ?_, fun v hv hvl => ?_, fun v hv hvl => ?_⟩
  · rw [M.keys, B.keys]
    constructor
    · rintro (⟨v, h1, h2, h3⟩ | ⟨u, hu⟩)
      · exact ⟨v, h1, by omega, h3⟩
      · obtain ⟨h1, h2, h3⟩ := M.ent _ hu
        exact ⟨u, h1, Nat.le_of_eq h2, h3⟩
    · rintro ⟨v, h1, h2, h3⟩
      rcases Nat.lt_or_ge m v.length with h | h
      · obtain ⟨_, q⟩ := key v h1 (by omega)
        rw [h3] at q
        rcases q with ⟨v', q1, q2, q3⟩ | ⟨u, q1, _⟩
        · exact Or.inl ⟨v', q1, q2, q3⟩
        · exact Or.inr ⟨u, q1⟩
      · exact Or.inl ⟨v, h1, h, h3⟩
  · rcases Nat.lt_or_ge m v.length with h | h
    · exact (key v hv (by omega)).1
    · exact B.no v hv h
  · rcases (key v hv hvl).2 with ⟨v', q1, q2, q3⟩ | h
    · exact Or.inl ⟨v', q1, by omega, q3⟩
    · exact Or.inr h
theorem bfs_empty (B : Bfs step k s0 fin m met []) : ∀ v, Ok k v → ¬ fin (run step s0 v) := by
  have key : ∀ n, ∀ v, Ok k v → v.length ≤ n → ¬ fin (run step s0 v) := by
    intro n
    induction n with
    | zero => exact fun v hv hl => B.no v hv (by omega)
    | succ n ih =>
      intro v hv hl
      rcases Nat.lt_or_ge m v.length with h | h
      · have e : v.take m ++ v.drop m = v := List.take_append_drop m v
        have o1 : Ok k (v.take m) := fun x hx => hv x (List.mem_of_mem_take hx)
        have o2 : Ok k (v.drop m) := fun x hx => hv x (List.mem_of_mem_drop hx)
        rcases B.full (v.take m) o1 (by rw [List.length_take]; omega) with ⟨v2, p1, p2, p3⟩ | ⟨u, p1, _⟩
        · have q := ih (v2 ++ v.drop m) (fun x hx => (List.mem_append.mp hx).elim (p1 x) (o2 x)) (by rw [List.length_append, List.length_drop]; omega)
          rw [run_app, p3, ← run_app, e] at q
          exact q
        · cases p1
      · exact B.no v hv h
  exact fun v hv => key v.length v hv (Nat.le_refl _)
end
/-! ### counts -/
section
variable {S : Type} (step : S → Nat → S) (k : Nat) (fin : S → Bool)
/-- how many words of a length lead from s to what fin tells -/
def cnt : Nat → S → Nat
  | 0, s => if fin s = true then 1 else 0
  | n + 1, s => ((List.range k).map fun x => cnt n (step s x)).sum
theorem sum_le_of {α : Type} (f : α → Nat) (b : Nat) : ∀ l : List α, (∀ x ∈ l, f x ≤ b) → (l.map f).sum ≤ l.length * b
  | [], _ => by simp
  | x :: l, h => by
    have h1 := sum_le_of f b l fun y hy => h y (List.mem_cons_of_mem _ hy)
    have h2 := h x List.mem_cons_self
    rw [List.map_cons, List.sum_cons, List.length_cons, Nat.add_mul]
    omega
theorem cnt_le : ∀ (n : Nat) (s : S), cnt step k fin n s ≤ k ^ n
  | 0, s => by
    unfold cnt
    split <;> simp
  | n + 1, s => by
    unfold cnt
    have h := sum_le_of (fun x => cnt step k fin n (step s x)) (k ^ n) (List.range k) fun x _ => cnt_le n _
    rw [List.length_range] at h
    rw [Nat.pow_succ, Nat.mul_comm]
    exact h
def wt (n : Nat) (T : List (S × (Nat × List Nat))) : Nat := (T.map fun e => e.2.1 * cnt step k fin n e.1).sum
theorem map_sum_congr {α : Type} {f g : α → Nat} : ∀ {l : List α}, (∀ x ∈ l, f x = g x) → (l.map f).sum = (l.map g).sum
  | [], _ => rfl
  | x :: l, h => by
    rw [List.map_cons, List.map_cons, List.sum_cons, List.sum_cons, h x List.mem_cons_self, map_sum_congr fun y hy => h y (List.mem_cons_of_mem _ hy)]
end
section
variable {A B : Type} {stepA : A → Nat → A} {stepB : B → Nat → B} {k : Nat} {finA : A → Bool} {finB : B → Bool} {f : A → B} {I : A → Prop}
/-- one automaton seen in another -/
structure Iso (stepA : A → Nat → A) (stepB : B → Nat → B) (k : Nat) (finA : A → Bool) (finB : B → Bool) (f : A → B) (I : A → Prop) : Prop where
  step : ∀ a x, I a → x < k → f (stepA a x) = stepB (f a) x
  stay : ∀ a x, I a → x < k → I (stepA a x)
  fin : ∀ a, I a → finA a = finB (f a)
theorem Iso.cnt (h : Iso stepA stepB k finA finB f I) : ∀ (n : Nat) (a : A), I a → Mt.cnt stepB k finB n (f a) = Mt.cnt stepA k finA n a
  | 0, a, i => by
    unfold Mt.cnt
    rw [h.fin a i]
  | n + 1, a, i => by
    unfold Mt.cnt
    refine map_sum_congr fun x hx => ?_
    have hx2 := List.mem_range.mp hx
    rw [← h.step a x i hx2]
    exact Iso.cnt h n _ (h.stay a x i hx2)
theorem Iso.run (h : Iso stepA stepB k finA finB f I) : ∀ (u : List Nat) (a : A), I a → Ok k u → Mt.run stepB (f a) u = f (Mt.run stepA a u) ∧ I (Mt.run stepA a u)
  | [], a, i, _ => ⟨rfl, i⟩
  | x :: u, a, i, o => by
    have hx : x < k := o x List.mem_cons_self
    have h1 := Iso.run h u (stepA a x) (h.stay a x i hx) fun y hy => o y (List.mem_cons_of_mem _ hy)
    show Mt.run stepB (stepB (f a) x) u = _ ∧ _
    rw [← h.step a x i hx]
    exact h1
theorem Iso.best (h : Iso stepA stepB k finA finB f I) {a : A} (i : I a) {u : List Nat} : Best stepB k (fun b => finB b = true) (f a) u ↔ Best stepA k (fun b => finA b = true) a u := by
  have e : ∀ v, Ok k v → (finB (Mt.run stepB (f a) v) = true ↔ finA (Mt.run stepA a v) = true) := fun v hv => by
    obtain ⟨h1, h2⟩ := h.run v a i hv
    rw [h1, h.fin _ h2]
  constructor
  · intro b
    exact ⟨b.ok, (e u b.ok).mp b.hit, fun v hv hp => b.short v hv ((e v hv).mpr hp), fun v hv hp => b.least v hv ((e v hv).mpr hp)⟩
  · intro b
    exact ⟨b.ok, (e u b.ok).mpr b.hit, fun v hv hp => b.short v hv ((e v hv).mp hp), fun v hv hp => b.least v hv ((e v hv).mp hp)⟩
end
/-! ### counts and least words, forwards -/
section
variable {S : Type} [DecidableEq S]
abbrev Tb (S : Type) := List (S × (Nat × List Nat))
def look (T : Tb S) (s : S) : Option (Nat × List Nat) := (T.find? fun e => decide (e.1 = s)).map (·.2)
def minW (a b : List Nat) : List Nat := if b < a then b else a
def addT (T : Tb S) (s : S) (c : Nat) (w : List Nat) : Tb S :=
  if (look T s).isSome = true then T.map fun e => if e.1 = s then (e.1, (e.2.1 + c, minW e.2.2 w)) else e else T ++ [(s, (c, w))]
theorem look_mem {T : Tb S} {s : S} {p : Nat × List Nat} (h : look T s = some p) : (s, p) ∈ T := by
  unfold look at h
  cases e : T.find? fun e => decide (e.1 = s) with
  | none => rw [e] at h; cases h
  | some q =>
    rw [e] at h
    have h1 : q.2 = p := Option.some.inj h
    have h2 : q.1 = s := of_decide_eq_true (List.find?_some (p := fun e : S × (Nat × List Nat) => decide (e.1 = s)) e)
    have h3 := List.mem_of_find?_eq_some e
    rw [← h1, ← h2]
    exact h3
theorem look_none {T : Tb S} {s : S} (h : look T s = none) : ∀ e ∈ T, e.1 ≠ s := by
  unfold look at h
  intro e he q
  have h1 : T.find? (fun e => decide (e.1 = s)) = none := by
    cases z : T.find? fun e => decide (e.1 = s) with
    | none => rfl
    | some _ => rw [z] at h; cases h
  have h2 := List.find?_eq_none.mp h1 e he
  exact h2 (decide_eq_true q)
theorem look_of_mem {T : Tb S} (nd : (T.map (·.1)).Nodup) {s : S} {p : Nat × List Nat} (h : (s, p) ∈ T) : look T s = some p := by
  cases e : look T s with
  | none => exact absurd rfl (look_none e _ h)
  | some q =>
    have h2 := look_mem e
    have h3 : (s, p) = (s, q) := by
      obtain ⟨i, hi⟩ := List.mem_iff_getElem?.mp h
      obtain ⟨j, hj⟩ := List.mem_iff_getElem?.mp h2
      obtain ⟨li, ei⟩ := List.getElem?_eq_some_iff.mp hi
      obtain ⟨lj, ej⟩ := List.getElem?_eq_some_iff.mp hj
      have hij : i = j := by
        have li' : i < (T.map (·.1)).length := by rw [List.length_map]; exact li
        have lj' : j < (T.map (·.1)).length := by rw [List.length_map]; exact lj
        refine (List.getElem_inj (h₀ := li') (h₁ := lj') nd).mp ?_
        rw [List.getElem_map, List.getElem_map, ei, ej]
      subst hij
      rw [← ei, ← ej]
    rw [(Prod.mk.inj h3).2]
theorem minW_le_left (a b : List Nat) : minW a b ≤ a := by
  unfold minW
  split
  · rename_i h
    exact List.le_of_lt h
  · exact List.le_refl _
theorem minW_le_right (a b : List Nat) : minW a b ≤ b := by
  unfold minW
  split
  · exact List.le_refl _
  · rename_i h
    exact List.not_lt.mp h
theorem minW_or (a b : List Nat) : minW a b = a ∨ minW a b = b := by
  unfold minW
  split
  · exact Or.inr rfl
  · exact Or.inl rfl
theorem addT_keys (T : Tb S) (s : S) (c : Nat) (w : List Nat) : (addT T s c w).map (·.1) = if (look T s).isSome = true then T.map (·.1) else T.map (·.1) ++ [s] := by
  unfold addT
  split
  · rw [List.map_map]
    refine List.map_congr_left fun e _ => ?_
    show (if e.1 = s then (e.1, (e.2.1 + c, minW e.2.2 w)) else e).1 = e.1
    split <;> rfl
  · rw [List.map_append]
    rfl
theorem key_mem {T : Tb S} {s : S} : (look T s).isSome = true ↔ s ∈ T.map (·.1) := by
  constructor
  · intro h
    obtain ⟨p, hp⟩ := Option.isSome_iff_exists.mp h
    exact List.mem_map.mpr ⟨_, look_mem hp, rfl⟩
  · intro h
    obtain ⟨e, h1, h2⟩ := List.mem_map.mp h
    cases q : look T s with
    | none => exact absurd h2 (look_none q e h1)
    | some _ => rfl
theorem addT_nodup {T : Tb S} (nd : (T.map (·.1)).Nodup) (s : S) (c : Nat) (w : List Nat) : ((addT T s c w).map (·.1)).Nodup := by
  rw [addT_keys]
  split
  · exact nd
  · rename_i h
    refine List.nodup_append.mpr ⟨nd, by simp, fun a ha b hb e => ?_⟩
    have e1 : b = s := by simpa using hb
    rw [e, e1] at ha
    exact h (key_mem.mpr ha)
theorem addT_mem {T : Tb S} {s : S} {c : Nat} {w : List Nat} {e : S × (Nat × List Nat)} (h : e ∈ addT T s c w) : (∃ e' ∈ T, e.1 = e'.1 ∧ (e.2.2 = e'.2.2 ∨ (e.1 = s ∧ e.2.2 = w))) ∨ (e.1 = s ∧ e.2.2 = w) := by
  unfold addT at h
  split at h
  · obtain ⟨e', h1, h2⟩ := List.mem_map.mp h
    left
    refine ⟨e', h1, ?_⟩
    split at h2
    · rename_i hs
      subst h2
      refine ⟨rfl, ?_⟩
      rcases minW_or e'.2.2 w with q | q
      · exact Or.inl q
      · exact Or.inr ⟨hs, q⟩
    · subst h2
      exact ⟨rfl, Or.inl rfl⟩
  · rcases List.mem_append.mp h with h1 | h1
    · exact Or.inl ⟨e, h1, rfl, Or.inl rfl⟩
    · have e1 : e = (s, (c, w)) := by simpa using h1
      subst e1
      exact Or.inr ⟨rfl, rfl⟩
theorem addT_old {T : Tb S} {s : S} {c : Nat} {w : List Nat} {e : S × (Nat × List Nat)} (h : e ∈ T) : ∃ e' ∈ addT T s c w, e'.1 = e.1 ∧ e'.2.2 ≤ e.2.2 := by
  unfold addT
  split
  · refine ⟨_, List.mem_map.mpr ⟨e, h, rfl⟩, ?_⟩
    split
    · exact ⟨rfl, minW_le_left _ _⟩
    · exact ⟨rfl, List.le_refl _⟩
  · exact ⟨e, List.mem_append_left _ h, rfl, List.le_refl _⟩
theorem addT_new {T : Tb S} {s : S} {c : Nat} {w : List Nat} : ∃ e' ∈ addT T s c w, e'.1 = s ∧ e'.2.2 ≤ w := by
  unfold addT
  split
  · rename_i h
    obtain ⟨p, hp⟩ := Option.isSome_iff_exists.mp h
    refine ⟨_, List.mem_map.mpr ⟨_, look_mem hp, rfl⟩, ?_⟩
    rw [if_pos rfl]
    exact ⟨rfl, minW_le_right _ _⟩
  · exact ⟨(s, (c, w)), List.mem_append_right _ (List.mem_singleton.mpr rfl), rfl, List.le_refl _⟩
variable {step : S → Nat → S} {k : Nat} {fin : S → Bool}
theorem wt_addT {T : Tb S} (nd : (T.map (·.1)).Nodup) (s : S) (c : Nat) (w : List Nat) (n : Nat) : wt step k fin n (addT T s c w) = wt step k fin n T + c * cnt step k fin n s := by
  unfold addT
  split
  · rename_i h
    rw [key_mem] at h
    unfold wt
    rw [List.map_map]
    induction T with
    | nil => cases h
    | cons e T ih =>
      rw [List.map_cons, List.nodup_cons] at nd
      rw [List.map_cons, List.map_cons, List.sum_cons, List.sum_cons]
      by_cases q : e.1 = s
      · have hno : ∀ e' ∈ T, e'.1 ≠ s := fun e' he' q2 => nd.1 (by rw [q, ← q2]; exact List.mem_map.mpr ⟨e', he', rfl⟩)
        have e2 : (T.map ((fun e => e.2.1 * cnt step k fin n e.1) ∘ fun e => if e.1 = s then (e.1, (e.2.1 + c, minW e.2.2 w)) else e)).sum = (T.map fun e => e.2.1 * cnt step k fin n e.1).sum := by
          refine map_sum_congr fun x hx => ?_
          show (if x.1 = s then (x.1, (x.2.1 + c, minW x.2.2 w)) else x).2.1 * cnt step k fin n (if x.1 = s then (x.1, (x.2.1 + c, minW x.2.2 w)) else x).1 = _
          rw [if_neg (hno x hx)]
        rw [e2]
        show (if e.1 = s then (e.1, (e.2.1 + c, minW e.2.2 w)) else e).2.1 * cnt step k fin n (if e.1 = s then (e.1, (e.2.1 + c, minW e.2.2 w)) else e).1 + _ = _
        rw [if_pos q]
        show (e.2.1 + c) * cnt step k fin n e.1 + _ = _
        rw [Nat.add_mul, q]
        omega
      · have h2 : s ∈ T.map (·.1) := by
          rcases List.mem_cons.mp h with q2 | q2
          · exact absurd q2.symm q
          · exact q2
        rw [ih nd.2 h2]
        show (if e.1 = s then (e.1, (e.2.1 + c, minW e.2.2 w)) else e).2.1 * cnt step k fin n (if e.1 = s then (e.1, (e.2.1 + c, minW e.2.2 w)) else e).1 + _ = _
        rw [if_neg q]
        omega
  · unfold wt
    rw [List.map_append, List.sum_append]
    show _ + (c * cnt step k fin n s + 0) = _
    omega
variable (step k fin) (s0 : S)
structure Tab (m : Nat) (T : Tb S) : Prop where
  nd : (T.map (·.1)).Nodup
  ent : ∀ e ∈ T, Ok k e.2.2 ∧ e.2.2.length = m ∧ run step s0 e.2.2 = e.1
  least : ∀ v, Ok k v → v.length = m → ∃ e ∈ T, e.1 = run step s0 v ∧ e.2.2 ≤ v
  sum : ∀ n, wt step k fin n T = cnt step k fin (m + n) s0
def part (T : Tb S) (i j n : Nat) : Nat := ((T.take i).map fun e => e.2.1 * cnt step k fin (n + 1) e.1).sum + match T[i]? with
  | some c => c.2.1 * ((List.range j).map fun x => cnt step k fin n (step c.1 x)).sum
  | none => 0
structure TabM (m : Nat) (T : Tb S) (i j : Nat) (L : Tb S) : Prop where
  nd : (L.map (·.1)).Nodup
  ent : ∀ e ∈ L, Ok k e.2.2 ∧ e.2.2.length = m + 1 ∧ run step s0 e.2.2 = e.1
  least : ∀ i' j' c, T[i']? = some c → j' < k → Bef i j i' j' → ∃ e ∈ L, e.1 = step c.1 j' ∧ e.2.2 ≤ c.2.2 ++ [j']
  sum : ∀ n, wt step k fin n L = part step k fin T i j n
variable {step k fin s0} {m i j : Nat} {T L : Tb S} {c : S × (Nat × List Nat)}
theorem tab_start : Tab step k fin s0 0 [(s0, (1, []))] where
  nd := by simp
  ent := fun e he => by
    have e1 : e = (s0, (1, [])) := by simpa using he
    subst e1
    exact ⟨fun x hx => (by cases hx), rfl, rfl⟩
  least := fun v _ hl => by
    have e1 : v = [] := List.length_eq_zero_iff.mp hl
    subst e1
    exact ⟨_, List.mem_singleton.mpr rfl, rfl, List.le_refl _⟩
  sum := fun n => by
    unfold wt
    simp
theorem tabm_start : TabM step k fin s0 m T 0 0 [] where
  nd := List.nodup_nil
  ent := fun e he => by cases he
  least := fun i' j' c _ _ hb => by
    unfold Bef at hb
    omega
  sum := fun n => by
    unfold wt part
    cases T with
    | nil => rfl
    | cons c T => simp
theorem tabm_row (hc : T[i]? = some c) (M : TabM step k fin s0 m T i k L) : TabM step k fin s0 m T (i + 1) 0 L where
  nd := M.nd
  ent := M.ent
  least := fun i' j' c h1 h2 h3 => M.least i' j' c h1 h2 (by
    unfold Bef at *
    omega)
  sum := fun n => by
    rw [M.sum n]
    unfold part
    have e1 : T.take (i + 1) = T.take i ++ [c] := by rw [List.take_add_one, hc]; rfl
    rw [hc, e1, List.map_append, List.sum_append]
    have e2 : (match T[i + 1]? with
      | some c => c.2.1 * ((List.range 0).map fun x => cnt step k fin n (step c.1 x)).sum
      | none => 0) = 0 := by
      cases T[i + 1]? with
      | none => rfl
      | some d => simp
    rw [e2]
    show _ + c.2.1 * cnt step k fin (n + 1) c.1 = _ + (c.2.1 * cnt step k fin (n + 1) c.1 + 0) + 0
    omega
theorem tabm_turn (B : Tab step k fin s0 m T) (M : TabM step k fin s0 m T i j L) (hc : T[i]? = some c) (hj : j < k) : TabM step k fin s0 m T i (j + 1) (addT L (step c.1 j) c.2.1 (c.2.2 ++ [j])) where
  nd := addT_nodup M.nd _ _ _
  ent := fun e he => by
    obtain ⟨g1, g2, g3⟩ := B.ent c (List.mem_of_getElem? hc)
    have new : Ok k (c.2.2 ++ [j]) ∧ (c.2.2 ++ [j]).length = m + 1 ∧ run step s0 (c.2.2 ++ [j]) = step c.1 j := ⟨g1.snoc k hj, by rw [List.length_append, g2]; rfl, by rw [run_snoc, g3]⟩
    rcases addT_mem he with ⟨e', h1, h2, h3 | ⟨h3, h4⟩⟩ | ⟨h3, h4⟩
    · rw [h3, h2]
      exact M.ent e' h1
    · rw [h4, h3]
      exact new
    · rw [h4, h3]
      exact new
  least := fun i' j' c' h1 h2 h3 => by
    rcases bef_succ h3 with h4 | ⟨h4, h5⟩
    · obtain ⟨e, g1, g2, g3⟩ := M.least i' j' c' h1 h2 h4
      obtain ⟨e', f1, f2, f3⟩ := addT_old (s := step c.1 j) (c := c.2.1) (w := c.2.2 ++ [j]) g1
      exact ⟨e', f1, f2.trans g2, List.le_trans f3 g3⟩
    · subst h4 h5
      rw [hc] at h1
      cases h1
      exact addT_new
  sum := fun n => by
    rw [wt_addT M.nd, M.sum n]
    unfold part
    rw [hc]
    show _ + c.2.1 * ((List.range j).map fun x => cnt step k fin n (step c.1 x)).sum + c.2.1 * cnt step k fin n (step c.1 j) = _ + c.2.1 * ((List.range (j + 1)).map fun x => cnt step k fin n (step c.1 x)).sum
    rw [List.range_succ, List.map_append, List.sum_append, Nat.mul_add]
    show _ = _ + (_ + c.2.1 * (cnt step k fin n (step c.1 j) + 0))
    rw [show cnt step k fin n (step c.1 j) + 0 = cnt step k fin n (step c.1 j) from rfl]
    omega
theorem tabm_end (B : Tab step k fin s0 m T) (M : TabM step k fin s0 m T T.length 0 L) : Tab step k fin s0 (m + 1) L where
  nd := M.nd
  ent := M.ent
  least := fun v hv hvl => by
    obtain ⟨v', y, rfl, hv'⟩ := snoc_of hvl
    obtain ⟨o1, o2⟩ := hv.of_snoc k
    obtain ⟨e, h1, h2, h3⟩ := B.least v' o1 hv'
    obtain ⟨i', hi'⟩ := List.mem_iff_getElem?.mp h1
    obtain ⟨e', g1, g2, g3⟩ := M.least i' y e hi' o2 (Or.inl (List.getElem?_eq_some_iff.mp hi').1)
    refine ⟨e', g1, by rw [g2, run_snoc, h2], List.le_trans g3 (app_le_of_le ?_ h3 (List.le_refl _))⟩
    rw [(B.ent e h1).2.1, hv']
  sum := fun n => by
    rw [M.sum n]
    unfold part
    rw [List.take_length, List.getElem?_eq_none (Nat.le_refl _)]
    show wt step k fin (n + 1) T + 0 = _
    rw [B.sum (n + 1), show m + (n + 1) = m + 1 + n by omega]
    rfl
/-- how many words of the table's length hit one state -/
theorem tab_count (B : Tab step k fin s0 m T) {s : S} (hf : ∀ t, fin t = decide (t = s)) : cnt step k fin m s0 = match look T s with
    | some p => p.1
    | none => 0 := by
  have h := B.sum 0
  rw [Nat.add_zero] at h
  rw [← h]
  have e1 : ∀ e : S × (Nat × List Nat), e.2.1 * cnt step k fin 0 e.1 = if e.1 = s then e.2.1 else 0 := fun e => by
    unfold cnt
    rw [hf]
    by_cases q : e.1 = s
    · simp [q]
    · simp [q]
  unfold wt
  rw [map_sum_congr fun e _ => e1 e]
  have nd := B.nd
  clear h B e1
  induction T with
  | nil => rfl
  | cons e T ih =>
    rw [List.map_cons, List.nodup_cons] at nd
    rw [List.map_cons, List.sum_cons]
    unfold look
    rw [List.find?_cons]
    by_cases q : e.1 = s
    · rw [decide_eq_true q, if_pos q]
      have h0 : (T.map fun e => if e.1 = s then e.2.1 else 0).sum = 0 := by
        have h1 : ∀ x ∈ T, (if x.1 = s then x.2.1 else 0) = (fun _ => 0) x := fun x hx => if_neg fun q2 => nd.1 (by rw [q, ← q2]; exact List.mem_map.mpr ⟨x, hx, rfl⟩)
        rw [map_sum_congr h1]
        clear h1 ih nd
        induction T with
        | nil => rfl
        | cons _ _ ih2 => simpa using ih2
      rw [h0]
      rfl
    · rw [decide_eq_false q, if_neg q, Nat.zero_add]
      exact ih nd.2
/-- the first length at which one state is hit -/
theorem tab_best (B : Tab step k fin s0 m T) {P : S → Prop} {s : S} (hf : ∀ t, P t ↔ t = s) (hno : ∀ v, Ok k v → v.length < m → ¬ P (run step s0 v)) {p : Nat × List Nat} (h : look T s = some p) : Best step k P s0 p.2 := by
  obtain ⟨h1, h2, h3⟩ := B.ent _ (look_mem h)
  refine ⟨h1, (hf _).mpr h3, fun v hv hp => ?_, fun v hv hp hl => ?_⟩
  · rcases Nat.lt_or_ge v.length m with q | q
    · exact absurd hp (hno v hv q)
    · have e : p.2.length = m := h2
      omega
  · obtain ⟨e, g1, g2, g3⟩ := B.least v hv (hl.trans h2)
    have g4 : e.1 = s := g2.trans ((hf _).mp hp)
    have g5 := look_of_mem B.nd (s := e.1) (p := e.2) g1
    rw [g4, h] at g5
    rw [Option.some.inj g5]
    exact g3
theorem tab_no (B : Tab step k fin s0 m T) {P : S → Prop} {s : S} (hf : ∀ t, P t ↔ t = s) (hno : ∀ v, Ok k v → v.length < m → ¬ P (run step s0 v)) (h : look T s = none) : ∀ v, Ok k v → v.length < m + 1 → ¬ P (run step s0 v) := fun v hv hl hp => by
  rcases Nat.lt_or_ge v.length m with q | q
  · exact hno v hv q hp
  · obtain ⟨e, g1, g2, g3⟩ := B.least v hv (by omega)
    exact look_none h e g1 (g2.trans ((hf _).mp hp))
end
end Mt
set_option Elab.async false
set_option linter.all false
set_option maxRecDepth 100000
set_option maxHeartbeats 4000000
namespace K24
open PySem PySem.Spec PyProof.Rows L2
theorem for_seq {K : PySem.W.Frag} {a : Addr} {k : Kd} {xs : List V} {g : TG} {tb : TS} {D : Ends} {σ : L2.St} {H : Hp} (Pv : Nat → L2.St → Hp → Prop) (h0 : Pv 0 σ H) (hG : ∀ i σ H, i ≤ xs.length → Pv i σ H → Sq K H a xs k)
    (hs : ∀ i x σ H, xs[i]? = some x → Pv i σ H → g x σ H fun σ2 H2 => tb { D with nx := Pv (i + 1), ct := Pv (i + 1), bk := D.nx } σ2 H2) (hd : ∀ σ H, Pv xs.length σ H → D.nx σ H) :
    ∃ W : Nat → Nat → L2.St → Hp → Prop, (∃ m, W 0 m σ H) ∧ ∀ i m σ H, W i m σ H →
      ((ItS K a k).stop i H ∧ D.nx σ H) ∨ ((ItS K a k).go i H ∧ ∃ N : L2.St → Hp → Prop, (∀ σ' H', N σ' H' → ∃ m', m' < m ∧ W (i + 1) m' σ' H') ∧ ∀ x H', (ItS K a k).yld i H x H' → g x σ H' fun σ2 H2 => tb { D with nx := N, ct := N, bk := D.nx } σ2 H2) := by
  refine ⟨fun i m σ H => m = xs.length - i ∧ i ≤ xs.length ∧ Pv i σ H, ⟨xs.length, by simp, Nat.zero_le _, h0⟩, ?_⟩
  rintro i m σ H ⟨rfl, hi, p⟩
  have q := hG i σ H hi p
  by_cases hlt : i < xs.length
  · refine .inr ⟨?_, Pv (i + 1), fun σ' H' p' => ⟨xs.length - (i + 1), by omega, rfl, hlt, p'⟩, fun x H' y => ?_⟩
    · cases k with
      | L => exact ⟨xs, xs[i], q, by simp [hlt]⟩
      | T => exact ⟨xs, xs[i], q, by simp [hlt]⟩
    · have : H' = H ∧ xs[i]? = some x := by
        cases k with
        | L => exact ⟨y.1, y.2 xs q⟩
        | T => exact ⟨y.1, y.2 xs q⟩
      obtain ⟨e, hx⟩ := this
      subst e
      exact hs i x σ H' hx p
  · have e : i = xs.length := by omega
    subst e
    refine .inl ⟨?_, hd σ H p⟩
    cases k with
    | L => exact ⟨xs, q, Nat.le_refl _⟩
    | T => exact ⟨xs, q, Nat.le_refl _⟩
/-- the lots' automaton -/
noncomputable def stepL (D : HD) (os : List Nat) (l : List Nat) (c : Nat) : List Nat := leftF D os (shownAt D os c) l
theorem shown_get {D : HD} {os : List Nat} {n c : Nat} (h : c < n) : (shownOf D os n)[c]? = some (shownAt D os c) := by
  unfold shownOf
  rw [List.getElem?_map, List.getElem?_range h]
  rfl
theorem shown_len (D : HD) (os : List Nat) (n : Nat) : (shownOf D os n).length = n := by unfold shownOf; simp
theorem run_nilL (D : HD) (os : List Nat) : ∀ ws : List Nat, Mt.run (stepL D os) [] ws = []
  | [] => rfl
  | x :: r => by
    show Mt.run (stepL D os) (stepL D os [] x) r = []
    rw [show stepL D os [] x = [] from leftF_nil _ _ _]
    exact run_nilL D os r
structure Pre (K : PySem.W.Frag) (H : Hp) (h v qv av r : V) (D : HD) (n : Nat) (qs : List Nat) : Prop where
  hs : HS K H h D
  hv : TTN H v (cellv n)
  hq : TN H qv qs
  ql : qs.length = D.standings.length
  ha : av = nV 0
  hr : TTN H r (List.replicate n [0])
  gd : Gd D n
theorem Pre.mono {K : PySem.W.Frag} {H H' : Hp} {h v qv av r : V} {D : HD} {n : Nat} {qs : List Nat} (s : SmI H H') (p : Pre K H h v qv av r D n qs) : Pre K H' h v qv av r D n qs := ⟨ImmR.mono s p.hs, ImmR.mono s p.hv, ImmR.mono s p.hq, p.ql, p.ha, ImmR.mono s p.hr, p.gd⟩
theorem others_ok {D : HD} {qs : List Nat} (h : qs.length = D.standings.length) : LotOk D (othersOf qs) := by
  refine ⟨List.Pairwise.filter _ List.nodup_range, fun x hx => ?_⟩
  have := (List.mem_filter.mp hx).1
  rw [List.mem_range] at this
  omega
section
variable {P : Program} {w : World} {K : PySem.W.Frag} {mg : Str → Option Value}
def sp_dying_lots (K : PySem.W.Frag) : Sp := S6 fun h v qv av r wv H Q _ => ∃ D n qs ws, Pre K H h v qv av r D n qs ∧ SN H wv ws ∧ (∀ x ∈ ws, x < n) ∧ ws.length ≤ 1000 ∧
  ∀ u H', Same H H' → (∃ a vs y, u = .ref a ∧ H' a = some (.tup (vs ++ [y])) ∧ TN H' y (Mt.run (stepL D (othersOf qs)) (othersOf qs) ws)) → Q u H'
theorem rd_dying_lots {vs : List V} {H : Hp} {Q : VK} {E : XK} (h : sp_dying_lots K vs H Q E) : t_dying_lots P w K (sp_need_sight K) sp_need_word (sp_left_lot K) (Dn Q) (start N_dying_lots vs) H := by
  obtain ⟨h, v, qv, av, r, wv, rfl, D, n, qs, ws, p, hw, hwn, hwl, q⟩ := h
  have oko := others_ok p.ql
  have h64 := p.gd.l64
  refine ⟨_, rfl, _, rfl, _, rfl, _, rfl, _, rfl, _, _, _, _, _, rfl, D, n, qs, p.hs, p.hv, p.hq, p.ql, p.ha, p.hr, p.gd, fun u H1 s1 ⟨t, o, s, eu, ht, ho, hsh⟩ => ?_⟩
  subst eu
  refine ⟨t, _, rfl, SqT.of ht, rfl, _, _, rfl, _, _, rfl, rfl, ?_⟩
  refine ⟨_, rfl, (by show 1 ≤ sizeLine; decide), fun L nL => ?_⟩
  have s2 := same_new (o := .lst [o]) nL
  obtain ⟨sa, svs, rfl, hsa, hsp⟩ := id hsh
  have hsl : svs.length = n := by rw [Paired.len hsp, shown_len]
  generalize hos : othersOf qs = os at *
  refine ⟨_, rfl, _, _, rfl, .inr (SqT.of (s2 _ _ hsa)), _, rfl, _, _, rfl, n, ws, by rw [hsl], SamR.mono (s1.trans s2) hw, hwn, fun u H3 s3 hu => ?_⟩
  obtain ⟨b, rfl, hb⟩ := hu
  have t3 := s1.trans (s2.trans s3)
  have nL0 : H L = none := same_none s1 nL
  have eL := s3 _ _ (upd_same (H := H1) (a := L) (o := .lst [o]))
  refine ⟨b, NL ws, .T, rfl, SqT.of hb, ?_⟩
  have h1 := ImmR.mono (smi t3) p.hs
  have h2 := ImmR.mono (smi (s2.trans s3)) ho
  have h3 := ImmR.mono (smi (s2.trans s3)) hsh
  -- the end
  have fin : ∀ (o9 : Option V) H', Same H H' → (∃ vs y, H' L = some (.lst (vs ++ [y])) ∧ TN H' y (Mt.run (stepL D os) os ws)) → tRet (tThen (tVar 8) (kTup K)) (Dn Q) [some h, some v, some qv, some av, some r, some wv, some o, some (.ref sa), some (.ref L), o9] H' := fun o9 H' sm ⟨vs, y, e, hy⟩ => by
    refine ⟨_, rfl, .inl ⟨L, _, rfl, SqL.of e, fun z nz => ?_⟩⟩
    have sz := same_new (o := .tup (vs ++ [y])) nz
    exact q _ _ (sm.trans sz) ⟨z, vs, y, rfl, upd_same, SamR.mono sz hy⟩
  refine for_seq (k := .T) (fun i σ H' => ∃ o9 vs y, σ = [some h, some v, some qv, some av, some r, some wv, some o, some (.ref sa), some (.ref L), o9] ∧ Same H H' ∧ SmI H3 H' ∧ H' L = some (.lst (vs ++ [y])) ∧ vs.length ≤ i ∧ TN H' y (Mt.run (stepL D os) os (ws.take i)))
    ⟨_, [], o, rfl, t3, SmI.refl _, eL, Nat.le_refl _, h2⟩ (fun i σ H' _ ⟨_, _, _, _, _, sm, _⟩ => SqT.of (sm _ _ trivial hb)) (fun i x σ H4 hx ⟨o9, vs, y, e, sm, si, e4, l4, ty⟩ => ?_) (fun σ H4 ⟨o9, vs, y, e, sm, si, e4, l4, ty⟩ => ?_)
  · subst e
    have hi : i < ws.length := by
      have := (List.getElem?_eq_some_iff.mp hx).1
      rwa [nl_len] at this
    have ex : x = nV ws[i] := by
      have := nl_get (ns := ws) (i := i) (n := ws[i]) (by simp [hi])
      rw [this] at hx
      exact (Option.some.inj hx).symm
    subst ex
    have tk : Mt.run (stepL D os) os (ws.take (i + 1)) = stepL D os (Mt.run (stepL D os) os (ws.take i)) ws[i] := by
      rw [List.take_succ, List.getElem?_eq_getElem hi]
      exact Mt.run_snoc _ _ _ _
    obtain ⟨yb, rfl, hyb⟩ := id ty
    refine ⟨_, rfl, _, rfl, L, _, _, _, rfl, rfl, SqL.of e4, atI_last _ _, _, .inr (.inl ⟨NL (Mt.run (stepL D os) os (ws.take i)), SqT.of hyb, rfl⟩), ?_⟩
    by_cases hz : Mt.run (stepL D os) os (ws.take i) = []
    · rw [hz]
      refine if_t rfl (fin _ _ sm ⟨vs, _, e4, ?_⟩)
      have : Mt.run (stepL D os) os ws = [] := by
        rw [← List.take_append_drop i ws, Mt.run_app, hz, run_nilL]
      rw [this, ← hz]
      exact ty
    · refine if_f ?_ ?_
      · cases hq : Mt.run (stepL D os) os (ws.take i) with
        | nil => exact absurd hq hz
        | cons a b => rfl
      have hwi := hwn ws[i] (List.getElem_mem hi)
      obtain ⟨sx, hsx, hsx2⟩ := Paired.get hsp (shown_get (D := D) (os := os) hwi)
      have okl : LotOk D (Mt.run (stepL D os) os (ws.take i)) := by
        rcases Nat.eq_zero_or_pos i with z | z
        · subst z
          exact oko
        · obtain ⟨j, rfl⟩ : ∃ j, i = j + 1 := ⟨i - 1, by omega⟩
          rw [List.take_succ, List.getElem?_eq_getElem (by omega : j < ws.length)]
          rw [show ws.take j ++ (some ws[j]).toList = ws.take j ++ [ws[j]] from rfl, Mt.run_snoc]
          exact left_ok _ _ _ _
      have sia : SmI H1 H4 := (smi (s2.trans s3)).trans si
      refine ⟨_, rfl, .inl ⟨rfl, _, SqL.of e4⟩, _, rfl, _, rfl, _, rfl, _, rfl, sa, svs, _, sx, rfl, rfl, SqT.of (sia _ _ trivial hsa), atI_nat hsx, _, rfl, _, rfl, L, _, _, _, rfl, rfl, SqL.of e4, atI_last _ _, _, _, _, _, rfl, D, n, os, shownAt D os ws[i], _, ImmR.mono si h1, p.gd, ImmR.mono sia ho, ImmR.mono sia hsx2, ty, oko, okl, fun u H5 s5 hu => ?_⟩
      have e5 := s5 _ _ e4
      refine ⟨L, _, _, rfl, rfl, e5, ?_, ?_⟩
      · rw [List.length_append]
        simp
        exact Nat.lt_of_le_of_lt (by omega : vs.length + 1 ≤ 1001) (by decide)
      · have sl := smi_lst (u := .lst (vs ++ [.ref yb] ++ [u])) e5
        refine ⟨_, vs ++ [.ref yb], u, rfl, same_out (sm.trans s5) nL0, (si.trans (smi s5)).trans sl, upd_same, by simp; omega, ?_⟩
        rw [tk]
        exact ImmR.mono sl hu
  · subst e
    rw [nl_len, List.take_length] at ty
    exact fin _ _ sm ⟨vs, y, e4, ty⟩
def sp_word_settles (K : PySem.W.Frag) : Sp := S6 fun h v qv av r wv H Q _ => ∃ D n qs ws, Pre K H h v qv av r D n qs ∧ SN H wv ws ∧ (∀ x ∈ ws, x < n) ∧ ws.length ≤ 1000 ∧ ∀ H', Same H H' → Q (.bl (Mt.run (stepL D (othersOf qs)) (othersOf qs) ws).isEmpty) H'
theorem rd_word_settles {vs : List V} {H : Hp} {Q : VK} {E : XK} (h : sp_word_settles K vs H Q E) : t_word_settles P w K (sp_dying_lots K) (Dn Q) (start N_word_settles vs) H := by
  obtain ⟨h, v, qv, av, r, wv, rfl, D, n, qs, ws, p, hw, hwn, hwl, q⟩ := h
  refine ⟨_, rfl, _, rfl, _, rfl, _, rfl, _, rfl, _, rfl, _, _, _, _, _, _, rfl, D, n, qs, ws, p, hw, hwn, hwl, fun u H1 s1 ⟨a, vs, y, eu, ha, hy⟩ => ?_⟩
  subst eu
  obtain ⟨b, rfl, hb⟩ := hy
  refine ⟨_, rfl, a, _, _, _, rfl, rfl, SqT.of ha, atI_last _ _, _, .inr (.inl ⟨_, SqT.of hb, rfl⟩), ?_⟩
  have : (!(!(NL (Mt.run (stepL D (othersOf qs)) (othersOf qs) ws)).isEmpty)) = (Mt.run (stepL D (othersOf qs)) (othersOf qs) ws).isEmpty := by
    rw [Bool.not_not]
    cases Mt.run (stepL D (othersOf qs)) (othersOf qs) ws <;> rfl
  show Q (.bl (!(!(NL _).isEmpty))) H1
  rw [this]
  exact q _ s1
end
end K24
set_option Elab.async false
set_option linter.all false
set_option maxRecDepth 100000
set_option maxHeartbeats 4000000
namespace K24
open PySem PySem.Spec PyProof.Rows L2
/-! ### dicts whose keys are lots -/
section
variable {α : Type}
def kvsB (f : α → V) (M : List (List Nat × α)) : List (List Key × V) := M.map fun e => (kN e.1, f e.2)
theorem kvsB_get (f : α → V) (M : List (List Nat × α)) (l : List Nat) : valV (kvsB f M) (kN l) = (M.lookup l).map f := by
  induction M with
  | nil => rfl
  | cons m r ih =>
    have e : kvsB f (m :: r) = (kN m.1, f m.2) :: kvsB f r := rfl
    rw [e]
    by_cases h : m.1 = l
    · subst h
      rw [valV_pos rfl]
      simp [List.lookup]
    · have h' : ¬ (kN m.1 = kN l) := fun z => h (kN_inj z)
      rw [valV_neg h', ih]
      have hb : (l == m.1) = false := beq_eq_false_iff_ne.mpr fun z => h z.symm
      obtain ⟨m1, m2⟩ := m
      simp only [List.lookup]
      rw [hb]
theorem kvsB_put {f : α → V} {M : List (List Nat × α)} {l : List Nat} {x : α} (h : M.lookup l = none) : putK (kvsB f M) (kN l) (f x) = kvsB f (M ++ [(l, x)]) := by
  rw [putK_new _ (by rw [kvsB_get, h]; rfl)]
  unfold kvsB
  rw [List.map_append]
  rfl
theorem kvsB_len (f : α → V) (M : List (List Nat × α)) : (kvsB f M).length = M.length := by unfold kvsB; simp
end
/-- the dict that has met the lots M -/
def kvsT (M : List (List Nat)) : List (List Key × V) := M.map fun l => (kN l, V.bl true)
theorem kvsT_get (M : List (List Nat)) (l : List Nat) : (valV (kvsT M) (kN l)).isSome = decide (l ∈ M) := by
  induction M with
  | nil => rfl
  | cons m r ih =>
    have e : kvsT (m :: r) = (kN m, V.bl true) :: kvsT r := rfl
    rw [e]
    by_cases h : m = l
    · subst h
      rw [valV_pos rfl]
      simp
    · have h' : ¬ (kN m = kN l) := fun z => h (kN_inj z)
      rw [valV_neg h', ih]
      simp [Ne.symm h, h]
theorem kvsT_put {M : List (List Nat)} {l : List Nat} (h : l ∉ M) : putK (kvsT M) (kN l) (V.bl true) = kvsT (M ++ [l]) := by
  have hn : valV (kvsT M) (kN l) = none := by
    have := kvsT_get M l
    rw [decide_eq_false h] at this
    cases e : valV (kvsT M) (kN l) with
    | none => rfl
    | some v => rw [e] at this; cases this
  rw [putK_new _ hn]
  unfold kvsT
  rw [List.map_append]
  rfl
theorem kvsT_len (M : List (List Nat)) : (kvsT M).length = M.length := by unfold kvsT; simp
/-- a lot and a word -/
def LW : Rl (List Nat × List Nat) := fun H v e => ∃ t a b, v = .ref t ∧ H t = some (.tup [a, b]) ∧ TN H a e.1 ∧ TN H b e.2
instance : ImmR LW := ⟨fun s ⟨t, a, b, e, h, h1, h2⟩ => ⟨t, a, b, e, s _ _ trivial h, ImmR.mono s h1, ImmR.mono s h2⟩⟩
structure Fam (D : HD) (os : List Nat) (n : Nat) (RF : List (List Nat)) : Prop where
  mem : os ∈ RF
  cl : ∀ l ∈ RF, ∀ c, c < n → stepL D os l c ∈ RF
  len : RF.length ≤ 1000
  ok : ∀ l ∈ RF, LotOk D l
theorem Fam.run {D : HD} {os : List Nat} {n : Nat} {RF : List (List Nat)} (F : Fam D os n RF) : ∀ {u : List Nat} {s : List Nat}, s ∈ RF → Mt.Ok n u → Mt.run (stepL D os) s u ∈ RF
  | [], s, hs, _ => hs
  | x :: r, s, hs, h => F.run (u := r) (F.cl s hs x (h x List.mem_cons_self)) fun y hy => h y (List.mem_cons_of_mem _ hy)
theorem snoc_nodup {α : Type} {M : List α} {x : α} (h : M.Nodup) (hx : x ∉ M) : (M ++ [x]).Nodup := by
  rw [List.nodup_append]
  exact ⟨h, by simp, fun a ha b hb => by simp at hb; subst hb; exact fun z => hx (z ▸ ha)⟩
section
variable {P : Program} {w : World} {K : PySem.W.Frag} {mg : Str → Option Value}
/-- word + (letter,) -/
theorem cat_word {H : Hp} {x : V} {b : Addr} {u : List Nat} {j : Nat} {Q : VK} (hx : TN H x u) (hb : H b = some (.tup (NL [j]))) (hl : u.length ≤ 1000) (q : ∀ v H', Same H H' → TN H' v (u ++ [j]) → Q v H') : rCatA K x (.ref b) H Q := by
  obtain ⟨a, rfl, ha⟩ := hx
  refine ⟨a, b, NL u, NL [j], rfl, rfl, SqT.of ha, SqT.of hb, ?_, fun e => ?_, fun _ e => ?_, fun _ _ p np => ?_⟩
  · rw [nl_len, nl_len]
    exact Nat.le_of_lt (Nat.lt_of_le_of_lt (show u.length + 1 ≤ 1001 by omega) (by decide))
  · have : u = [] := by
      cases u with
      | nil => rfl
      | cons a b => cases e
    subst this
    exact q _ _ (Same.refl _) ⟨b, rfl, hb⟩
  · cases e
  · refine q _ _ (same_new np) ⟨p, rfl, ?_⟩
    rw [upd_same]
    unfold NL
    rw [List.map_append]
def sp_shortest_word (K : PySem.W.Frag) : Sp := S5 fun h v qv av r H Q _ => ∃ D n qs RF, Pre K H h v qv av r D n qs ∧ Fam D (othersOf qs) n RF ∧ othersOf qs ≠ [] ∧ (∃ x, Mt.Ok n x ∧ x.length ≤ 12 ∧ Mt.run (stepL D (othersOf qs)) (othersOf qs) x = []) ∧
  ∀ u H' x, Same H H' → TN H' u x → Mt.Best (stepL D (othersOf qs)) n (fun l => l = []) (othersOf qs) x → Q u H'
theorem rd_shortest_word {vs : List V} {H : Hp} {Q : VK} {E : XK} (h : sp_shortest_word K vs H Q E) : t_shortest_word P w K (sp_need_sight K) (sp_left_lot K) (Dn Q) (start N_shortest_word vs) H := by
  obtain ⟨h, v, qv, av, r, rfl, D, n, qs, RF, p, F, hne, ⟨hit, hok, h12, hhit⟩, q⟩ := h
  have oko := others_ok p.ql
  have h64 := p.gd.l64
  have hn6 := p.gd.n6
  refine ⟨_, rfl, _, rfl, _, rfl, _, rfl, _, rfl, _, _, _, _, _, rfl, D, n, qs, p.hs, p.hv, p.hq, p.ql, p.ha, p.hr, p.gd, fun u H1 s1 ⟨t, o, s, eu, ht, ho, hsh⟩ => ?_⟩
  subst eu
  refine ⟨t, _, rfl, SqT.of ht, rfl, _, _, rfl, _, _, rfl, rfl, ?_⟩
  obtain ⟨sa, svs, rfl, hsa, hsp⟩ := id hsh
  have hsl : svs.length = n := by rw [Paired.len hsp, shown_len]
  obtain ⟨ob, rfl, hob⟩ := id ho
  have hs1 := ImmR.mono (smi s1) p.hs
  have pgd := p.gd
  generalize othersOf qs = os at *
  have hnl : (NL os).isEmpty = false := by
    cases os with
    | nil => exact absurd rfl hne
    | cons a b => rfl
  refine ⟨_, rfl, _, .inr (.inl ⟨NL os, SqT.of hob, rfl⟩), if_f (by rw [hnl]; rfl) ?_⟩
  -- met
  intro dm ndm
  have s2 := same_new (o := .dT []) ndm
  refine ⟨_, rfl, upd_same, kN os, ob, rfl, by rw [kN_map]; exact s2 _ _ hob, ?_⟩
  have s3 : Same H1 (upd (upd H1 dm (.dT [])) dm (.dT [(kN os, .bl true)])) := same_out s2 ndm
  have e3 : (upd (upd H1 dm (.dT [])) dm (.dT [(kN os, .bl true)])) dm = some (.dT (kvsT [os])) := upd_same
  generalize upd (upd H1 dm (.dT [])) dm (.dT [(kN os, .bl true)]) = H3 at s3 e3 ⊢
  -- layer
  refine ⟨_, rfl, Nat.zero_le _, fun e ne => ⟨(by show 2 ≤ sizeLine; decide), fun t2 nt2 => ⟨(by show 1 ≤ sizeLine; decide), fun ly nly => ?_⟩⟩⟩
  have s4 := (same_new (o := .tup []) ne).trans ((same_new (o := .tup [.ref ob, .ref e]) nt2).trans (same_new (o := .lst [.ref t2]) nly))
  have nly1 : H1 ly = none := same_none (s3.trans ((same_new (o := .tup []) ne).trans (same_new (o := .tup [.ref ob, .ref e]) nt2))) nly
  refine ⟨fun mm σ H' => ∃ m met layer lvs ly o9 o10 o11 o12 o13, σ = [some h, some v, some qv, some av, some r, some (.ref ob), some (.ref sa), some (.ref dm), some (.ref ly), o9, o10, o11, o12, o13] ∧ mm = 13 - m ∧ Same H1 H' ∧ H' dm = some (.dT (kvsT met)) ∧ met.Nodup ∧ (∀ s ∈ met, s ∈ RF) ∧ H' ly = some (.lst lvs) ∧ H1 ly = none ∧ Paired (LW H') lvs layer ∧ Mt.Bfs (stepL D os) n os (fun l => l = []) m met layer,
    ⟨13, 0, [os], [(os, [])], [.ref t2], ly, none, none, none, none, none, rfl, rfl, s3.trans s4, s4 _ _ e3, by simp, fun s hs => by simp at hs; subst hs; exact F.mem, upd_same, nly1, .cons ⟨t2, .ref ob, .ref e, rfl, ?_, ?_, ?_⟩ .nil, Mt.bfs_start hne⟩, fun mm σ H5 ⟨m, met, layer, lvs, ly, o9, o10, o11, o12, o13, eσ, em, s5, e5, nd5, rf5, l5, nly, p5, B⟩ => ?_⟩
  · exact same_new nly _ _ upd_same
  · exact ⟨ob, rfl, s4 _ _ (s3 _ _ hob)⟩
  · exact ⟨e, rfl, (same_new (o := .lst [.ref t2]) nly) _ _ ((same_new (o := .tup [.ref ob, .ref e]) nt2) _ _ upd_same)⟩
  subst eσ
  have hm12 : m < 12 := by
    rcases Nat.lt_or_ge m hit.length with z | z
    · omega
    · exact absurd hhit (B.no hit hok z)
  refine ⟨_, rfl, _, .inl ⟨lvs, SqL.of l5, rfl⟩, ?_⟩
  by_cases hl : layer = []
  · subst hl
    exact absurd hhit (Mt.bfs_empty B hit hok)
  have hle : lvs.isEmpty = false := by
    cases p5 with
    | nil => exact absurd rfl hl
    | cons _ _ => rfl
  refine if_t (by rw [hle]; rfl) ⟨_, fun σ' H' h => h, ?_⟩
  -- following = []
  refine ⟨Nat.zero_le _, fun Fo nF => ?_⟩
  have s6 := same_new (o := .lst []) nF
  have nF1 : H1 Fo = none := same_none s5 nF
  have eF : (upd H5 Fo (.lst [])) Fo = some (.lst []) := upd_same
  have e6 := s6 _ _ e5
  have l6 := s6 _ _ l5
  have p6 : Paired (LW (upd H5 Fo (.lst []))) lvs layer := L2.Paired.mapP p5 fun _ _ z => SamR.mono s6 z
  have s16 := s5.trans s6
  generalize upd H5 Fo (.lst []) = H6 at s16 eF e6 l6 p6 ⊢
  have dF : dm ≠ Fo := fun z => by rw [z, eF] at e6; cases e6
  have lF : ly ≠ Fo := fun z => by
    rw [z] at l5
    rw [l5] at nF
    cases nF
  have dl : dm ≠ ly := fun z => by rw [z, l5] at e5; cases e5
  refine ⟨_, rfl, ly, lvs, .L, rfl, SqL.of l6, ?_⟩
  let Inv := fun (i j : Nat) (met' : List (List Nat)) (fol : List (List Nat × List Nat)) (H' : Hp) => Same H1 H' ∧ H' dm = some (.dT (kvsT met')) ∧ met'.Nodup ∧ (∀ s ∈ met', s ∈ RF) ∧ H' ly = some (.lst lvs) ∧ Paired (LW H') lvs layer ∧ (∃ fvs, H' Fo = some (.lst fvs) ∧ Paired (LW H') fvs fol) ∧ fol.length ≤ met'.length ∧ Mt.Mid (stepL D os) n os (fun l => l = []) m met layer i j met' fol
  refine for_seq (k := .L) (fun i σ H' => ∃ o10 o11 o12 o13 met' fol, σ = [some h, some v, some qv, some av, some r, some (.ref ob), some (.ref sa), some (.ref dm), some (.ref ly), some (.ref Fo), o10, o11, o12, o13] ∧ Inv i 0 met' fol H')
    ⟨_, _, _, _, met, [], rfl, s16, e6, nd5, rf5, l6, p6, ⟨[], eF, .nil⟩, Nat.zero_le _, Mt.mid_start⟩ (fun i σ H' _ ⟨_, _, _, _, _, _, _, _, _, _, _, l, _⟩ => SqL.of l) (fun i x σ H7 hx ⟨o10, o11, o12, o13, met', fol, eσ, s7, e7, nd7, rf7, l7, p7, ⟨fvs, f7, fp7⟩, len7, M⟩ => ?_) (fun σ H7 ⟨o10, o11, o12, o13, met', fol, eσ, s7, e7, nd7, rf7, l7, p7, ⟨fvs, f7, fp7⟩, len7, M⟩ => ?_)
  · subst eσ
    obtain ⟨c, hc, tt, a, b, rfl, htt, hta, htb⟩ := Paired.get' p7 hx
    refine ⟨tt, _, rfl, SqT.of htt, rfl, _, _, rfl, _, _, rfl, rfl, ?_⟩
    obtain ⟨cok, clen, crun⟩ := B.ent c (mem_get hc)
    have cRF : c.1 ∈ RF := by rw [← crun]; exact F.run F.mem cok
    refine ⟨_, rfl, _, _, rfl, .inr (SqT.of (s7 _ _ hsa)), _, rfl, by omega, by omega, ?_⟩
    rw [hsl, Int.toNat_natCast]
    refine for_go (iw_range (p := 12)) (fun j σ H' => ∃ o12 o13 met' fol, σ = [some h, some v, some qv, some av, some r, some (.ref ob), some (.ref sa), some (.ref dm), some (.ref ly), some (.ref Fo), some a, some b, o12, o13] ∧ SmI H7 H' ∧ Inv i j met' fol H')
      ⟨_, _, met', fol, rfl, SmI.refl _, s7, e7, nd7, rf7, l7, p7, ⟨fvs, f7, fp7⟩, len7, M⟩ (fun _ _ _ _ _ => trivial) (fun j σ H8 H9 hj ⟨o12, o13, met'', fol', eσ, i8, s8, e8, nd8, rf8, l8, p8, ⟨fvs', f8, fp8⟩, len8, M8⟩ s9 => ?_) (fun σ H8 ⟨o12, o13, met'', fol', eσ, i8, s8, e8, nd8, rf8, l8, p8, ⟨fvs', f8, fp8⟩, len8, M8⟩ => ?_)
    · subst eσ
      have s19 := s8.trans s9
      have i9 : SmI H7 H9 := i8.trans (smi s9)
      obtain ⟨sx, hsx, hsx2⟩ := Paired.get hsp (shown_get (D := D) (os := os) hj)
      refine ⟨_, rfl, _, rfl, _, rfl, _, rfl, sa, svs, _, sx, rfl, rfl, SqT.of (s19 _ _ hsa), ?_, _, rfl, _, _, _, _, rfl, D, n, os, shownAt D os j, c.1, SamR.mono s19 hs1, pgd, ⟨ob, rfl, s19 _ _ hob⟩, SamR.mono s19 hsx2, ImmR.mono i9 hta, oko, F.ok _ cRF, fun lf H10 s10 hlf => ?_⟩
      · show atI svs (0 + (j : Nat)) = some sx
        rw [Int.zero_add]
        exact atI_nat hsx
      obtain ⟨lb, rfl, hlb⟩ := id hlf
      have hst : leftF D os (shownAt D os j) c.1 = stepL D os c.1 j := rfl
      rw [hst] at hlb hlf
      have s110 := s19.trans s10
      have i10 : SmI H7 H10 := i9.trans (smi s10)
      have cl1000 : c.2.length ≤ 1000 := by omega
      refine ⟨_, rfl, _, .inr (.inl ⟨NL (stepL D os c.1 j), SqT.of hlb, rfl⟩), ?_⟩
      have hwd : V.int (0 + (j : Nat)) = nV j := by rw [Int.zero_add]
      by_cases hz : stepL D os c.1 j = []
      · rw [hz]
        refine if_t rfl ⟨_, rfl, _, rfl, (by show 1 ≤ sizeLine; decide), fun p11 n11 => ?_⟩
        have s11 := same_new (o := .tup [V.int (0 + (j : Nat))]) n11
        refine cat_word (SamR.mono s11 (ImmR.mono i10 htb)) (j := j) (by rw [upd_same, hwd]; rfl) cl1000 fun u H12 s12 hu => ?_
        exact q u H12 _ ((s1.trans s110).trans (s11.trans s12)) hu (Mt.mid_found B M8 hc hj hz)
      · refine if_f ?_ ?_
        · cases hq : stepL D os c.1 j with
          | nil => exact absurd hq hz
          | cons a b => rfl
        have e10 := s10 _ _ (s9 _ _ e8)
        have l10 := s10 _ _ (s9 _ _ l8)
        have f10 := s10 _ _ (s9 _ _ f8)
        have p10 : Paired (LW H10) lvs layer := L2.Paired.mapP p8 fun _ _ z => SamR.mono (s9.trans s10) z
        have fp10 : Paired (LW H10) fvs' fol' := L2.Paired.mapP fp8 fun _ _ z => SamR.mono (s9.trans s10) z
        refine ⟨_, rfl, _, rfl, dm, _, rfl, DGet.t (k := kN (stepL D os c.1 j)) e10 (by rw [kN_map]; exact hlb), _, rfl, ?_⟩
        rw [kvsT_get]
        by_cases hin : stepL D os c.1 j ∈ met''
        · refine if_f (by rw [decide_eq_true hin]; rfl) ⟨_, _, met'', fol', rfl, i10, s110, e10, nd8, rf8, l10, p10, ⟨fvs', f10, fp10⟩, len8, Mt.mid_old B M8 hc hz hin⟩
        · have nd11 := snoc_nodup nd8 hin
          have rf11 : ∀ s ∈ met'' ++ [stepL D os c.1 j], s ∈ RF := fun s hs => by
            rcases List.mem_append.mp hs with z | z
            · exact rf8 s z
            · simp at z
              subst z
              exact F.cl _ cRF j hj
          have ml := List.Nodup.length_le_of_subset nd11 rf11
          have fl := F.len
          rw [List.length_append] at ml
          simp at ml
          refine if_t (by rw [decide_eq_false hin]; rfl) ⟨_, rfl, _, rfl, dm, _, rfl, DPut.t (k := kN (stepL D os c.1 j)) e10 (by rw [kN_map]; exact hlb) (by rw [kvsT_len]; exact Nat.lt_of_le_of_lt (by omega : met''.length ≤ 1000) (by decide)), ?_⟩
          rw [kvsT_put hin]
          have id11 := smi_dT (u := .dT (kvsT (met'' ++ [stepL D os c.1 j]))) e10
          have so11 : Same H1 (upd H10 dm (.dT (kvsT (met'' ++ [stepL D os c.1 j])))) := same_out s110 ndm
          have e11 : (upd H10 dm (.dT (kvsT (met'' ++ [stepL D os c.1 j])))) dm = some (.dT (kvsT (met'' ++ [stepL D os c.1 j]))) := upd_same
          have l11 : (upd H10 dm (.dT (kvsT (met'' ++ [stepL D os c.1 j])))) ly = some (.lst lvs) := by rw [upd_ne (Ne.symm dl)]; exact l10
          have f11 : (upd H10 dm (.dT (kvsT (met'' ++ [stepL D os c.1 j])))) Fo = some (.lst fvs') := by rw [upd_ne (Ne.symm dF)]; exact f10
          generalize upd H10 dm (.dT (kvsT (met'' ++ [stepL D os c.1 j]))) = H11 at id11 so11 e11 l11 f11 ⊢
          have i11 := i10.trans id11
          refine ⟨_, rfl, .inl ⟨rfl, _, SqL.of f11⟩, ?_⟩
          refine ⟨_, rfl, _, rfl, _, rfl, (by show 1 ≤ sizeLine; decide), fun p12 n12 => ?_⟩
          have s12 := same_new (o := .tup [V.int (0 + (j : Nat))]) n12
          refine cat_word (SamR.mono s12 (ImmR.mono i11 htb)) (j := j) (by rw [upd_same, hwd]; rfl) cl1000 fun u H13 s13 hu => ?_
          refine ⟨(by show 2 ≤ sizeLine; decide), fun t14 n14 => ?_⟩
          have s14 := same_new (o := .tup [.ref lb, u]) n14
          have s24 := (s12.trans s13).trans s14
          have f14 := s24 _ _ f11
          refine ⟨Fo, fvs', _, rfl, rfl, f14, ?_, ?_⟩
          · have := Paired.len fp10
            exact Nat.lt_of_le_of_lt (by omega : fvs'.length ≤ 1000) (by decide)
          · have sl := smi_lst (u := .lst (fvs' ++ [.ref t14])) f14
            have il := (smi s24).trans sl
            refine ⟨_, _, met'' ++ [stepL D os c.1 j], fol' ++ [(stepL D os c.1 j, c.2 ++ [j])], rfl, i11.trans il, same_out (so11.trans s24) nF1, ?_, nd11, rf11, ?_, ?_, ⟨_, upd_same, ?_⟩, ?_, Mt.mid_new B M8 hc hj hz⟩
            · rw [upd_ne dF]
              exact s24 _ _ e11
            · rw [upd_ne lF]
              exact s24 _ _ l11
            · exact L2.Paired.mapP p10 fun _ _ z => ImmR.mono (id11.trans il) z
            · refine Paired.snoc (L2.Paired.mapP fp10 fun _ _ z => ImmR.mono (id11.trans il) z) ⟨t14, .ref lb, u, rfl, ?_, ?_, ?_⟩
              · exact sl _ _ trivial upd_same
              · exact ImmR.mono ((id11.trans il)) ⟨lb, rfl, hlb⟩
              · exact ImmR.mono ((smi s14).trans sl) hu
            · rw [List.length_append, List.length_append]
              simp
              omega
    · subst eσ
      exact ⟨_, _, _, _, met'', fol', rfl, s8, e8, nd8, rf8, l8, p8, ⟨fvs', f8, fp8⟩, len8, Mt.mid_row M8⟩
  · subst eσ
    rw [Paired.len p7] at M
    exact ⟨_, rfl, _, by omega, m + 1, met', fol, fvs, Fo, _, _, _, _, _, rfl, rfl, s7, e7, nd7, rf7, f7, nF1, fp7, Mt.mid_end B M⟩
def sp_fewest_looks (K : PySem.W.Frag) : Sp := S5 fun h v qv av r H Q _ => ∃ D n qs RF, Pre K H h v qv av r D n qs ∧ Fam D (othersOf qs) n RF ∧ othersOf qs ≠ [] ∧ (∃ x, Mt.Ok n x ∧ x.length ≤ 12 ∧ Mt.run (stepL D (othersOf qs)) (othersOf qs) x = []) ∧
  ∀ H' x, Same H H' → Mt.Best (stepL D (othersOf qs)) n (fun l => l = []) (othersOf qs) x → Q (nV x.length) H'
theorem rd_fewest_looks {vs : List V} {H : Hp} {Q : VK} {E : XK} (h : sp_fewest_looks K vs H Q E) : t_fewest_looks P w K (sp_shortest_word K) (Dn Q) (start N_fewest_looks vs) H := by
  obtain ⟨h, v, qv, av, r, rfl, D, n, qs, RF, p, F, hne, hh, q⟩ := h
  refine ⟨_, rfl, _, rfl, _, rfl, _, rfl, _, rfl, _, _, _, _, _, rfl, D, n, qs, RF, p, F, hne, hh, fun u H1 x s1 hu hx => ?_⟩
  obtain ⟨a, rfl, ha⟩ := hu
  refine ⟨_, rfl, rfl, _, rfl, if_f (by simp) ?_⟩
  refine ⟨_, rfl, _, _, rfl, .inr (SqT.of ha), ?_⟩
  rw [nl_len]
  exact q H1 x s1 hx
end
end K24
set_option Elab.async false
set_option linter.all false
set_option maxRecDepth 100000
set_option maxHeartbeats 4000000
namespace K24
open PySem PySem.Spec PyProof.Rows L2
theorem co_walk {J : It} {g : TG} {n : Nat} {G : Hp → Prop} {Y : Nat → Hp → V → Hp → Prop} (w : Walk J n G Y) {tt : TT} {o0 : Addr → HO} {add : Addr → L2.St → Hp → (Hp → Prop) → Prop} {vs : List Nat} {σ : L2.St} {H1 : Hp} {D : Addr} {Qd : Hp → Prop} (Pv : Nat → Hp → Prop) (h0 : Pv 0 (upd H1 D (o0 D))) (hG : ∀ i H, i ≤ n → Pv i H → G H)
    (hs : ∀ i x H H', i < n → Pv i H → Y i H x H' → g x (wipe σ vs) H' fun σ2 H2 => wipe σ2 vs = wipe σ vs ∧ tt σ2 H2 fun b H3 => if b = true then add D σ2 H3 (Pv (i + 1)) else Pv (i + 1) H3) (hd : ∀ H, Pv n H → Qd H) :
    ∃ W : Nat → Nat → Hp → Prop, (∃ m, W 0 m (upd H1 D (o0 D))) ∧ ∀ i m H, W i m H →
      (J.stop i H ∧ Qd H) ∨ (J.go i H ∧ ∃ Nx : Hp → Prop, (∀ H', Nx H' → ∃ m', m' < m ∧ W (i + 1) m' H') ∧ ∀ x H', J.yld i H x H' → g x (wipe σ vs) H' fun σ2 H2 => wipe σ2 vs = wipe σ vs ∧ tt σ2 H2 fun b H3 =>
        if b = true then add D σ2 H3 Nx else Nx H3) := by
  refine ⟨fun i m H => m = n - i ∧ i ≤ n ∧ Pv i H, ⟨n, by simp, Nat.zero_le _, h0⟩, ?_⟩
  rintro i m H ⟨rfl, hi, p⟩
  have q := hG i H hi p
  by_cases hlt : i < n
  · exact .inr ⟨w.goes i H hlt q, Pv (i + 1), fun H' p' => ⟨n - (i + 1), by omega, rfl, hlt, p'⟩, fun x H' y => hs i x H H' hlt p (w.yields i H x H' hlt q y)⟩
  · have e : i = n := by omega
    subst e
    exact .inl ⟨w.stops H q, hd H p⟩
theorem dget_t {H : Hp} {a b : Addr} {kvs : List (List Key × V)} {k : List Key} {v : V} (e : H a = some (.dT kvs)) (eb : H b = some (.tup (k.map kV))) (hv : valV kvs k = some v) : DGet H a (.ref b) (some v) := hv ▸ DGet.t e eb
theorem smi_x {H H' : Hp} {d : Addr} {o : HO} (h : H d = some o) (n : ¬ Imm o) (s : SmX d H H') : SmI H H' := fun b u i e => s b u (fun z => by rw [z, h] at e; cases e; exact n i) e
/-- the steps of a lot by each letter -/
noncomputable def nextsL (D : HD) (os : List Nat) (n : Nat) (l : List Nat) : List (List Nat) := (List.range n).map (stepL D os l)
theorem nexts_get {D : HD} {os : List Nat} {n : Nat} {l : List Nat} {c : Nat} (h : c < n) : (nextsL D os n l)[c]? = some (stepL D os l c) := by
  unfold nextsL
  rw [List.getElem?_map, List.getElem?_range h]
  rfl
theorem nexts_len (D : HD) (os : List Nat) (n : Nat) (l : List Nat) : (nextsL D os n l).length = n := by unfold nextsL; simp
/-- what follows the lots of M -/
def FolOk (D : HD) (os : List Nat) (n : Nat) (kf : List (List Key × V)) (avoid : Addr → Prop) (H : Hp) (l : List Nat) : Prop := ∃ a vs, valV kf (kN l) = some (.ref a) ∧ ¬ avoid a ∧ H a = some (.lst vs) ∧ Paired (TN H) vs (nextsL D os n l)
def emp (l : List Nat) : Bool := l.isEmpty
noncomputable def tabOf (D : HD) (os : List Nat) (n m : Nat) (M : List (List Nat)) : List (List Key × V) := M.map fun l => (kN l, nV (Mt.cnt (stepL D os) n emp m l))
section
variable {P : Program} {w : World} {K : PySem.W.Frag} {mg : Str → Option Value}
/-- the first part: met, follow -/
theorem settled_met {H : Hp} {h : V} {ob sa : Addr} {svs : List V} {lenv : V} {D : HD} {n : Nat} {os : List Nat} {RF : List (List Nat)} {u : TS} {Ed : Ends} (hs : HS K H h D) (gd : Gd D n) (hob : H ob = some (.tup (NL os))) (hsa : H sa = some (.tup svs)) (hsp : Paired (TN H) svs (shownOf D os n)) (oko : LotOk D os) (F : Fam D os n RF)
    (q : ∀ (H' : Hp) (dm fo : Addr) (wv o7 o8 : Option V) (M : List (List Nat)) (kf : List (List Key × V)), Same H H' → H dm = none → dm ≠ fo → H' dm = some (.dT (kvsT M)) → H' fo = some (.dT kf) → M.Nodup → (∀ s ∈ M, s ∈ RF) → os ∈ M → (∀ l ∈ M, ∀ c, c < n → stepL D os l c ∈ M) → (∀ l ∈ M, FolOk D os n kf (fun _ => False) H' l) →
      u Ed [some h, some (.ref ob), some (.ref sa), some lenv, some (.ref dm), wv, some (.ref fo), o7, o8, none, none] H') :
    tSeq (tAsg (tTup (tCons (tDOneT (tVar 1) (tC (.bl true))) (tCons (tLst (tCons (tVar 1) tNil)) (tCons tDNewT tNil)))) (gTup K 3 (gCons (gName 4) (gCons (gName 5) (gCons (gName 6) gNil)))))
      (tSeq (tWhile (tTru K (tVar 5)) (tSeq (tAsg (tBM0 K "list" rPop (tVar 5)) (gName 7))
        (tSeq (sDPut (tVar 6) (tVar 7) (tLc (iSeq K (tVar 2)) (gName 10) tYes (tCall (sp_left_lot K) [] E0 (tCons (tVar 0) (tCons (tVar 1) (tCons (tVar 10) (tCons (tVar 7) tNil))))) [10]))
          (tFor (iSeq K (tDGet (tVar 6) (tVar 7))) (gName 8) (tIfS (tB (tDNotIn (tVar 8) (tVar 4))) (tSeq (sDPut (tVar 4) (tVar 8) (tC (.bl true))) (tDrop (tBM K "list" rAppend (tVar 5) (tCons (tVar 8) tNil)))) tNext))))) u) Ed
      [some h, some (.ref ob), some (.ref sa), some lenv, none, none, none, none, none, none, none] H := by
  have hn6 := gd.n6
  have fl := F.len
  have hsl : svs.length = n := by rw [Paired.len hsp, shown_len]
  intro dm ndm
  have s2 := same_new (o := .dT []) ndm
  refine ⟨_, rfl, upd_same, kN os, ob, rfl, by rw [kN_map]; exact s2 _ _ hob, ?_⟩
  have s3 : Same H (upd (upd H dm (.dT [])) dm (.dT [(kN os, .bl true)])) := same_out s2 ndm
  have e3 : (upd (upd H dm (.dT [])) dm (.dT [(kN os, .bl true)])) dm = some (.dT (kvsT [os])) := upd_same
  generalize upd (upd H dm (.dT [])) dm (.dT [(kN os, .bl true)]) = H3 at s3 e3 ⊢
  refine ⟨_, rfl, (by show 1 ≤ sizeLine; decide), fun wl nwl => ?_⟩
  have s4 := same_new (o := .lst [.ref ob]) nwl
  have nwl0 := same_none s3 nwl
  intro fo nfo
  have s5 := same_new (o := .dT []) nfo
  have nfo0 := same_none (s3.trans s4) nfo
  refine ⟨(by show 3 ≤ sizeLine; decide), fun tp ntp => ?_⟩
  have s6 := same_new (o := .tup [.ref dm, .ref wl, .ref fo]) ntp
  refine ⟨tp, _, rfl, SqT.of upd_same, rfl, _, _, rfl, _, _, rfl, _, _, rfl, rfl, ?_⟩
  have d1 : dm ≠ wl := ne_of_none e3 nwl
  have d2 : dm ≠ fo := ne_of_none (s4 _ _ e3) nfo
  have d3 : wl ≠ fo := ne_of_none (upd_same (H := H3) (a := wl) (o := .lst [.ref ob])) nfo
  have s36 := s4.trans (s5.trans s6)
  refine ⟨fun mm σ H' => ∃ M Wl wvs kf o7 o8, σ = [some h, some (.ref ob), some (.ref sa), some lenv, some (.ref dm), some (.ref wl), some (.ref fo), o7, o8, none, none] ∧ Same H H' ∧ H' dm = some (.dT (kvsT M)) ∧ H' wl = some (.lst wvs) ∧ Paired (TN H') wvs Wl ∧ H' fo = some (.dT kf) ∧ M.Nodup ∧ (∀ s ∈ M, s ∈ RF) ∧ os ∈ M ∧ (∀ s ∈ Wl, s ∈ M) ∧
      (∀ l ∈ M, l ∉ Wl → FolOk D os n kf (fun a => a = wl) H' l ∧ ∀ c, c < n → stepL D os l c ∈ M) ∧ mm = 2 * (1000 - M.length) + Wl.length ∧ kf.length + mm ≤ 4000,
    ⟨_, [os], [os], [.ref ob], [], none, none, rfl, s3.trans s36, s36 _ _ e3, ?_, ?_, ?_, by simp, fun s hs => by simp at hs; subst hs; exact F.mem, by simp, fun s hs => hs, fun l hl hn => absurd hl hn, rfl, by simp⟩, fun mm σ H7 ⟨M, Wl, wvs, kf, o7, o8, eσ, s7, e7, w7, p7, f7, nd7, rf7, os7, sub7, cl7, em, bm⟩ => ?_⟩
  · exact s6 _ _ (s5 _ _ upd_same)
  · exact .cons ⟨ob, rfl, s36 _ _ (s3 _ _ hob)⟩ .nil
  · exact s6 _ _ upd_same
  subst eσ
  have hMl := List.Nodup.length_le_of_subset nd7 rf7
  refine ⟨_, rfl, _, .inl ⟨wvs, SqL.of w7, rfl⟩, ?_⟩
  by_cases hW : Wl = []
  · subst hW
    have hwn : wvs = [] := by cases p7; rfl
    subst hwn
    refine if_f rfl ?_
    exact q H7 dm fo _ _ _ M kf s7 ndm d2 e7 f7 nd7 rf7 os7 (fun l hl => (cl7 l hl (by simp)).2) (fun l hl => let ⟨a, vs, h1, h2, h3, h4⟩ := (cl7 l hl (by simp)).1; ⟨a, vs, h1, fun z => z, h3, h4⟩)
  · have hwe : wvs.isEmpty = false := by
      cases p7 with
      | nil => exact absurd rfl hW
      | cons _ _ => rfl
    refine if_t (by rw [hwe]; rfl) ⟨_, fun σ' H' h => h, ?_⟩
    obtain ⟨Wi, y, rfl⟩ : ∃ Wi y, Wl = Wi ++ [y] := ⟨Wl.dropLast, Wl.getLast hW, (List.dropLast_concat_getLast hW).symm⟩
    have hlen := Paired.len p7
    rw [List.length_append] at hlen
    simp at hlen
    have hwv : wvs ≠ [] := fun z => by rw [z] at hlen; simp at hlen
    obtain ⟨wi, v, rfl⟩ : ∃ wi v, wvs = wi ++ [v] := ⟨wvs.dropLast, wvs.getLast hwv, (List.dropLast_concat_getLast hwv).symm⟩
    have hwil : wi.length = Wi.length := by simp at hlen; omega
    have hv : TN H7 v y := by
      obtain ⟨x, hx, hx2⟩ := Paired.get p7 (i := Wi.length) (y := y) (by simp)
      rw [← hwil] at hx
      simp at hx
      subst hx
      exact hx2
    have pi7 : Paired (TN H7) wi Wi := Paired.of_get hwil fun i x z hx hz => by
      have hi := (List.getElem?_eq_some_iff.mp hx).1
      have hx' : (wi ++ [v])[i]? = some x := by rw [List.getElem?_append_left hi]; exact hx
      obtain ⟨z', hz', h'⟩ := Paired.get' p7 hx'
      rw [List.getElem?_append_left (by omega), hz] at hz'
      cases hz'
      exact h'
    have hyM : y ∈ M := sub7 y (by simp)
    have hyRF := rf7 y hyM
    refine ⟨_, rfl, .inl ⟨rfl, _, SqL.of w7⟩, wl, _, v, rfl, rfl, w7, by simp, ?_⟩
    rw [List.dropLast_concat]
    have sl := smi_lst (u := .lst wi) w7
    have s8 : Same H (upd H7 wl (.lst wi)) := same_out s7 nwl0
    have w8 : (upd H7 wl (.lst wi)) wl = some (.lst wi) := upd_same
    have e8 : (upd H7 wl (.lst wi)) dm = some (.dT (kvsT M)) := by rw [upd_ne d1]; exact e7
    have f8 : (upd H7 wl (.lst wi)) fo = some (.dT kf) := by rw [upd_ne (Ne.symm d3)]; exact f7
    have hv8 := ImmR.mono sl hv
    have p8 : Paired (TN (upd H7 wl (.lst wi))) wi Wi := L2.Paired.mapP pi7 fun _ _ z => ImmR.mono sl z
    have cl8 : ∀ l ∈ M, l ∉ Wi ++ [y] → FolOk D os n kf (fun a => a = wl) (upd H7 wl (.lst wi)) l ∧ ∀ c, c < n → stepL D os l c ∈ M := fun l hl hn => by
      obtain ⟨⟨a, vs, h1, h2, h3, h4⟩, h5⟩ := cl7 l hl hn
      exact ⟨⟨a, vs, h1, h2, by rw [upd_ne h2]; exact h3, L2.Paired.mapP h4 fun _ _ z => ImmR.mono sl z⟩, h5⟩
    generalize upd H7 wl (.lst wi) = H8 at s8 w8 e8 f8 hv8 p8 cl8 ⊢
    obtain ⟨b, rfl, hb⟩ := hv8
    -- follow[lot] = [..]
    refine ⟨_, rfl, sa, svs, .T, rfl, SqT.of (s8 _ _ hsa), ?_⟩
    intro a na
    refine lc_map na (iw_seq (k := .T) (p := 10)) (fun _ => rfl) (by omega) (fun H9 s9 => SqT.of (s9 _ _ (s8 _ _ hsa))) (fun c H9 z => TN H9 z (stepL D os y c)) (fun _ _ _ _ s z => ImmR.mono s z) (fun c H9 hc s9 Qk hk => ?_) (fun H9 zs s9 e9 l9 r9 => ?_)
    · rw [hsl] at hc
      obtain ⟨sx, hsx, hsx2⟩ := Paired.get hsp (shown_get (D := D) (os := os) hc)
      rw [get_getD hsx]
      have t9 := s8.trans s9
      exact ⟨_, rfl, _, rfl, _, rfl, _, rfl, _, _, _, _, rfl, D, n, os, shownAt D os c, y, SamR.mono t9 hs, gd, ⟨ob, rfl, t9 _ _ hob⟩, SamR.mono t9 hsx2, ⟨b, rfl, s9 _ _ hb⟩, oko, F.ok _ hyRF, fun u H10 s10 hu => hk u H10 s10 hu⟩
    rw [hsl] at l9
    have pz : Paired (TN H9) zs (nextsL D os n y) := Paired.of_get (by rw [nexts_len]; exact l9) fun i x z hx hz => by
      have hi := (List.getElem?_eq_some_iff.mp hx).1
      rw [nexts_get (by omega)] at hz
      cases hz
      exact r9 i x hx
    have f9 := s9 _ _ f8
    refine ⟨_, rfl, _, rfl, fo, _, rfl, DPut.t (k := kN y) f9 (by rw [kN_map]; exact s9 _ _ hb) (Nat.lt_of_le_of_lt (by omega : kf.length ≤ 4000) (by decide)), ?_⟩
    have sd := smi_dT (u := .dT (putK kf (kN y) (.ref a))) f9
    have afo : a ≠ fo := fun z => by rw [z, f9] at e9; cases e9
    have awl : a ≠ wl := fun z => by rw [z] at na; rw [w8] at na; cases na
    have s10 : Same H (upd H9 fo (.dT (putK kf (kN y) (.ref a)))) := same_out (s8.trans s9) nfo0
    have f10 : (upd H9 fo (.dT (putK kf (kN y) (.ref a)))) fo = some (.dT (putK kf (kN y) (.ref a))) := upd_same
    have e10 : (upd H9 fo (.dT (putK kf (kN y) (.ref a)))) dm = some (.dT (kvsT M)) := by rw [upd_ne d2]; exact s9 _ _ e8
    have w10 : (upd H9 fo (.dT (putK kf (kN y) (.ref a)))) wl = some (.lst wi) := by rw [upd_ne d3]; exact s9 _ _ w8
    have a10 : (upd H9 fo (.dT (putK kf (kN y) (.ref a)))) a = some (.lst zs) := by rw [upd_ne afo]; exact e9
    have pz10 : Paired (TN (upd H9 fo (.dT (putK kf (kN y) (.ref a))))) zs (nextsL D os n y) := L2.Paired.mapP pz fun _ _ z => ImmR.mono sd z
    have p10 : Paired (TN (upd H9 fo (.dT (putK kf (kN y) (.ref a))))) wi Wi := L2.Paired.mapP p8 fun _ _ z => ImmR.mono ((smi s9).trans sd) z
    have b10 : (upd H9 fo (.dT (putK kf (kN y) (.ref a)))) b = some (.tup (NL y)) := sd _ _ trivial (s9 _ _ hb)
    have cl10 : ∀ l ∈ M, l ∉ Wi → (l ≠ y → FolOk D os n (putK kf (kN y) (.ref a)) (fun a => a = wl) (upd H9 fo (.dT (putK kf (kN y) (.ref a)))) l ∧ ∀ c, c < n → stepL D os l c ∈ M) := fun l hl hn hly => by
      obtain ⟨⟨a2, vs, h1, h2, h3, h4⟩, h5⟩ := cl8 l hl (fun z => by rcases List.mem_append.mp z with z | z; exact hn z; exact hly (by simpa using z))
      refine ⟨⟨a2, vs, ?_, h2, ?_, L2.Paired.mapP h4 fun _ _ z => ImmR.mono ((smi s9).trans sd) z⟩, h5⟩
      · rw [valV_put, if_neg (fun z => hly (kN_inj z))]
        exact h1
      · have := s9 _ _ h3
        rw [upd_ne (fun z => by rw [z, f9] at this; cases this)]
        exact this
    have fy10 : FolOk D os n (putK kf (kN y) (.ref a)) (fun a => a = wl) (upd H9 fo (.dT (putK kf (kN y) (.ref a)))) y := ⟨a, zs, by rw [valV_put, if_pos rfl], awl, a10, pz10⟩
    have kl := length_putK kf (kN y) (.ref a)
    have vk : valV (putK kf (kN y) (.ref a)) (kN y) = some (.ref a) := by rw [valV_put, if_pos rfl]
    generalize upd H9 fo (.dT (putK kf (kN y) (.ref a))) = H10 at s10 f10 e10 w10 a10 pz10 p10 b10 cl10 fy10 ⊢
    generalize putK kf (kN y) (.ref a) = kf2 at f10 cl10 fy10 kl vk ⊢
    clear f9 e9 r9 cl8 f8 e8 w8 p8 f7 e7 w7 p7 sd cl7 sl
    -- for left in follow[lot]
    refine ⟨_, rfl, _, rfl, fo, .ref a, rfl, dget_t (k := kN y) f10 (by rw [kN_map]; exact b10) vk, a, zs, .L, rfl, SqL.of a10, ?_⟩
    refine for_seq (k := .L) (fun i σ H' => ∃ o8 M' Wl' wvs', σ = [some h, some (.ref ob), some (.ref sa), some lenv, some (.ref dm), some (.ref wl), some (.ref fo), some (.ref b), o8, none, none] ∧ Same H H' ∧ SmI H10 H' ∧ H' dm = some (.dT (kvsT M')) ∧ H' wl = some (.lst wvs') ∧ Paired (TN H') wvs' Wl' ∧ H' fo = some (.dT kf2) ∧ H' a = some (.lst zs) ∧ M'.Nodup ∧ (∀ s ∈ M', s ∈ RF) ∧ (∀ s ∈ M, s ∈ M') ∧ (∀ s ∈ Wl', s ∈ M') ∧
        (∀ l ∈ M', l ∉ Wl' → l ≠ y → FolOk D os n kf2 (fun a => a = wl) H' l ∧ ∀ c, c < n → stepL D os l c ∈ M') ∧ (∀ c, c < i → stepL D os y c ∈ M') ∧ 2 * (1000 - M'.length) + Wl'.length < mm)
      ⟨_, M, Wi, wi, rfl, s10, SmI.refl _, e10, w10, p10, f10, a10, nd7, rf7, fun s hs => hs, fun s hs => sub7 s (List.mem_append_left _ hs), cl10, fun c hc => by omega, by rw [em, List.length_append]; simp⟩
      (fun i σ H' _ ⟨_, _, _, _, _, _, _, _, _, _, _, ha, _⟩ => SqL.of ha) (fun i x σ H11 hx ⟨o8', M', Wl', wvs', eσ, s11, i11, e11, w11, p11, f11, a11, nd11, rf11, sb11, sub11, cl11, dn11, m11⟩ => ?_) (fun σ H11 ⟨o8', M', Wl', wvs', eσ, s11, i11, e11, w11, p11, f11, a11, nd11, rf11, sb11, sub11, cl11, dn11, m11⟩ => ?_)
    · subst eσ
      have hi : i < n := by
        have := (List.getElem?_eq_some_iff.mp hx).1
        omega
      obtain ⟨z, hz, hxz⟩ := Paired.get' pz10 hx
      rw [nexts_get hi] at hz
      cases hz
      have hx11 := ImmR.mono i11 hxz
      obtain ⟨xb, rfl, hxb⟩ := hx11
      refine ⟨_, rfl, _, rfl, dm, _, rfl, DGet.t (k := kN (stepL D os y i)) e11 (by rw [kN_map]; exact hxb), _, rfl, ?_⟩
      rw [kvsT_get]
      by_cases hin : stepL D os y i ∈ M'
      · refine if_f (by rw [decide_eq_true hin]; rfl) ⟨_, M', Wl', wvs', rfl, s11, i11, e11, w11, p11, f11, a11, nd11, rf11, sb11, sub11, cl11, fun c hc => ?_, m11⟩
        by_cases z : c = i
        · rw [z]; exact hin
        · exact dn11 c (by omega)
      · have nd12 := snoc_nodup nd11 hin
        have rf12 : ∀ s ∈ M' ++ [stepL D os y i], s ∈ RF := fun s hs => by
          rcases List.mem_append.mp hs with z | z
          · exact rf11 s z
          · simp at z
            subst z
            exact F.cl _ hyRF i hi
        have ml := List.Nodup.length_le_of_subset nd12 rf12
        rw [List.length_append] at ml
        simp at ml
        refine if_t (by rw [decide_eq_false hin]; rfl) ⟨_, rfl, _, rfl, dm, _, rfl, DPut.t (k := kN (stepL D os y i)) e11 (by rw [kN_map]; exact hxb) (by rw [kvsT_len]; exact Nat.lt_of_le_of_lt (by omega : M'.length ≤ 1000) (by decide)), ?_⟩
        rw [kvsT_put hin]
        have sd := smi_dT (u := .dT (kvsT (M' ++ [stepL D os y i]))) e11
        have w12 : (upd H11 dm (.dT (kvsT (M' ++ [stepL D os y i])))) wl = some (.lst wvs') := by rw [upd_ne (Ne.symm d1)]; exact w11
        have pl := Paired.len p11
        refine ⟨_, rfl, .inl ⟨rfl, _, SqL.of w12⟩, _, rfl, wl, wvs', _, rfl, rfl, w12, Nat.lt_of_le_of_lt (by omega : wvs'.length ≤ 4000) (by decide), ?_⟩
        have sl := smi_lst (u := .lst (wvs' ++ [.ref xb])) w12
        have ii := sd.trans sl
        refine ⟨_, M' ++ [stepL D os y i], Wl' ++ [stepL D os y i], wvs' ++ [.ref xb], rfl, same_out (same_out s11 ndm) nwl0, i11.trans ii, ?_, upd_same, ?_, ?_, ?_, nd12, rf12, fun s hs => List.mem_append_left _ (sb11 s hs), fun s hs => ?_, fun l hl hn hly => ?_, fun c hc => ?_, ?_⟩
        · rw [upd_ne d1, upd_same]
        · exact Paired.snoc (L2.Paired.mapP p11 fun _ _ z => ImmR.mono ii z) (ImmR.mono ii ⟨xb, rfl, hxb⟩)
        · rw [upd_ne (Ne.symm d3), upd_ne (Ne.symm d2)]
          exact f11
        · rw [upd_ne awl, upd_ne (fun z => by rw [z, e11] at a11; cases a11)]
          exact a11
        · rcases List.mem_append.mp hs with z | z
          · exact List.mem_append_left _ (sub11 s z)
          · exact List.mem_append_right _ z
        · rcases List.mem_append.mp hl with z | z
          · obtain ⟨⟨a2, vs, h1, h2, h3, h4⟩, h5⟩ := cl11 l z (fun z => hn (List.mem_append_left _ z)) hly
            refine ⟨⟨a2, vs, h1, h2, ?_, L2.Paired.mapP h4 fun _ _ z => ImmR.mono ii z⟩, fun c hc => List.mem_append_left _ (h5 c hc)⟩
            rw [upd_ne h2, upd_ne (fun z => by rw [z, e11] at h3; cases h3)]
            exact h3
          · exact absurd (List.mem_append_right _ z) hn
        · by_cases z : c = i
          · rw [z]; simp
          · exact List.mem_append_left _ (dn11 c (by omega))
        · rw [List.length_append, List.length_append]
          simp
          omega
    · subst eσ
      rw [l9] at dn11
      refine ⟨_, m11, M', Wl', wvs', kf2, _, _, rfl, s11, e11, w11, p11, f11, nd11, rf11, sb11 _ os7, sub11, fun l hl hn => ?_, rfl, by omega⟩
      by_cases hly : l = y
      · subst hly
        obtain ⟨a2, vs, h1, h2, h3, h4⟩ := fy10
        rw [vk] at h1
        cases h1
        exact ⟨⟨a, zs, vk, awl, a11, L2.Paired.mapP pz10 fun _ _ z => ImmR.mono i11 z⟩, dn11⟩
      · exact cl11 l hl hn hly
end
end K24
set_option Elab.async false
set_option linter.all false
set_option maxRecDepth 100000
set_option maxHeartbeats 4000000
namespace K24
open PySem PySem.Spec PyProof.Rows L2
/-- a table by a function of the lots -/
def tabF (f : List Nat → Nat) (M : List (List Nat)) : List (List Key × V) := M.map fun l => (kN l, nV (f l))
theorem tabF_get (f : List Nat → Nat) (M : List (List Nat)) (l : List Nat) : valV (tabF f M) (kN l) = if l ∈ M then some (nV (f l)) else none := by
  induction M with
  | nil => rfl
  | cons m r ih =>
    have e : tabF f (m :: r) = (kN m, nV (f m)) :: tabF f r := rfl
    rw [e]
    by_cases h : m = l
    · subst h
      rw [valV_pos rfl, if_pos (by simp)]
    · have h' : ¬ (kN m = kN l) := fun z => h (kN_inj z)
      rw [valV_neg h', ih]
      simp [Ne.symm h, h]
theorem tabF_put {f : List Nat → Nat} {M : List (List Nat)} {l : List Nat} (h : l ∉ M) : putK (tabF f M) (kN l) (nV (f l)) = tabF f (M ++ [l]) := by
  rw [putK_new _ (by rw [tabF_get, if_neg h])]
  unfold tabF
  rw [List.map_append]
  rfl
theorem tabF_len (f : List Nat → Nat) (M : List (List Nat)) : (tabF f M).length = M.length := by unfold tabF; simp
theorem sum_cast (g : Nat → Nat) : ∀ l : List Nat, (l.map fun c => ((g c : Nat) : Int)).sum = (((l.map g).sum : Nat) : Int)
  | [] => rfl
  | x :: r => by
    rw [List.map_cons, List.map_cons, List.sum_cons, List.sum_cons, sum_cast g r]
    omega
theorem nums_eq {ys : List V} {n : Nat} {g : Nat → Nat} (hl : ys.length = n) (h : ∀ (c : Nat) (y : V), ys[c]? = some y → y = nV (g c)) : ys = ((List.range n).map fun c => ((g c : Nat) : Int)).map V.int := by
  apply List.ext_getElem
  · simp [hl]
  · intro i h1 h2
    rw [h i ys[i] (by simp [h1])]
    simp
section
variable {P : Program} {w : World} {K : PySem.W.Frag} {mg : Str → Option Value}
/-- {lot: .. for lot in met}, met locked at d -/
theorem tab_comp {σ : L2.St} {i j : Nat} {H : Hp} {d : Addr} {od : Obj} {M : List (List Nat)} {f : List Nat → Nat} {tv : TE} {Q : VK} (hv : σ[i]? = some (some (.ref d))) (hw : ∀ x, wipe ((wipe σ [j]).set j (some x)) [j] = wipe σ [j]) (hj : ∀ x, ((wipe σ [j]).set j (some x))[j]? = some (some x)) (hd : H d = some (.frz od (.dT (kvsT M)))) (nd : M.Nodup) (hm : M.length ≤ 1000)
    (ht : ∀ l x H', l ∈ M → Same H H' → TN H' x l → ∀ Qk : VK, (∀ H2, Same H' H2 → Qk (nV (f l)) H2) → tv ((wipe σ [j]).set j (some x)) H' Qk)
    (q : ∀ D H', H D = none → Same H H' → H' D = some (.dT (tabF f M)) → Q (.ref D) H') : tCo (fun _ => .dT []) (iKeys (tVar i)) (gName j) tYes (addT (tVar j) tv) [j] σ H Q := by
  refine ⟨_, hv, d, od, rfl, .inr ⟨kvsT M, hd, ?_⟩⟩
  intro D nD
  refine co_walk (o0 := fun _ => .dT []) (tt := tYes) (add := addT (tVar j) tv) (Qd := fun H' => Q (.ref D) H') walk_keysT (fun i H' => Same H H' ∧ H' D = some (.dT (tabF f (M.take i)))) ⟨same_new nD, upd_same⟩ (fun i H' _ ⟨s, _⟩ => s _ _ hd) (fun i x H' H'' hi ⟨s, e⟩ ⟨eq, k, v, b, hk, ex, hb⟩ => ?_) (fun H' ⟨s, e⟩ => ?_)
  · subst eq ex
    rw [kvsT_len] at hi
    have hk' : k = kN M[i] := by
      unfold kvsT at hk
      rw [List.getElem?_map, List.getElem?_eq_getElem hi] at hk
      exact (Prod.mk.inj (Option.some.inj hk)).1.symm
    subst hk'
    rw [kN_map] at hb
    refine ⟨hw _, ?_⟩
    simp only [tYes, if_true]
    refine ⟨_, hj _, ht M[i] (.ref b) H'' (List.getElem_mem hi) s ⟨b, rfl, hb⟩ _ fun H2 s2 => ?_⟩
    have hno : M[i] ∉ M.take i := fun z => by
      obtain ⟨m, hm, em⟩ := List.getElem_of_mem z
      rw [List.length_take] at hm
      rw [List.getElem_take] at em
      have := (List.getElem_inj (h₀ := by omega) (h₁ := hi) nd).mp em
      omega
    refine ⟨_, kN M[i], b, s2 _ _ e, rfl, by rw [kN_map]; exact s2 _ _ hb, ?_, same_out (s.trans s2) nD, ?_⟩
    · rw [tabF_len]
      exact Nat.lt_of_le_of_lt (Nat.le_trans (List.length_take_le _ _) (by omega : i ≤ 1000)) (by decide)
    · rw [upd_same, tabF_put hno, List.take_succ, List.getElem?_eq_getElem hi]
      rfl
  · rw [kvsT_len, List.take_length] at e
    exact q D H' nD s e
def sp_settled_tables (K : PySem.W.Frag) : Sp := S4 fun h o s lv H Q _ => ∃ D n os RF L, HS K H h D ∧ Gd D n ∧ TN H o os ∧ TTN H s (shownOf D os n) ∧ LotOk D os ∧ Fam D os n RF ∧ lv = nV L ∧ L ≤ 1000 ∧
  ∀ u H', Same H H' → (∃ t tb fo tvs d M, u = .ref t ∧ H' t = some (.tup [.ref tb, fo]) ∧ H' tb = some (.lst tvs) ∧ tvs[L]? = some (.ref d) ∧ os ∈ M ∧ H' d = some (.dT (tabF (Mt.cnt (stepL D os) n emp L) M))) → Q u H'
theorem lock_same {H H' : Hp} {d : Addr} {u : HO} {od : Obj} (e : H d = some u) (s : Same (upd H d (.frz od u)) H') : Same H (upd H' d u) := fun b o h => by
  by_cases z : b = d
  · subst z
    rw [upd_same]
    rw [e] at h
    exact h
  · rw [upd_ne z]
    refine s _ _ ?_
    rw [upd_ne z]
    exact h
theorem rd_settled_tables {vs : List V} {H : Hp} {Q : VK} {E : XK} (h : sp_settled_tables K vs H Q E) : t_settled_tables P w K (sp_left_lot K) (Dn Q) (start N_settled_tables vs) H := by
  obtain ⟨h, o, s, lv, rfl, D, n, os, RF, L, hs, gd, ⟨ob, rfl, hob⟩, ⟨sa, svs, rfl, hsa, hsp⟩, oko, F, rfl, hL, q⟩ := h
  have fl := F.len
  refine settled_met hs gd hob hsa hsp oko F fun H1 dm fo wv o7 o8 M kf s1 ndm dmfo e1 f1 nd rf osM cl fol => ?_
  have hMl := List.Nodup.length_le_of_subset nd rf
  -- the first table
  refine ⟨dm, .dT (kvsT M), e1, trivial, fun od => ?_⟩
  have kfz : ¬ Imm (.frz od (.dT (kvsT M))) := fun z => z
  have x1 : SmX dm H1 (upd H1 dm (.frz od (.dT (kvsT M)))) := smx_upd
  simp only [tAsg, tLst, tCons]
  refine tab_comp (i := 4) (j := 7) (od := od) (σ := [some h, some (.ref ob), some (.ref sa), some (nV L), some (.ref dm), wv, some (.ref fo), o7, o8, none, none]) (f := Mt.cnt (stepL D os) n emp 0) rfl (fun _ => rfl) (fun _ => rfl) upd_same nd (by omega) (fun l x H2 hl s2 hx Qk hk => ?_) (fun T H2 nT s2 eT => ?_)
  · obtain ⟨b, rfl, hb⟩ := hx
    refine ⟨_, rfl, _, .inr (.inl ⟨NL l, SqT.of hb, rfl⟩), ?_⟩
    cases l with
    | nil => exact if_f rfl (hk _ (Same.refl _))
    | cons a r => exact if_t rfl (hk _ (Same.refl _))
  refine ⟨(by show 1 ≤ sizeLine; decide), fun tb ntb => ?_⟩
  have s3 := same_new (o := .lst [.ref T]) ntb
  have dtb : tb ≠ dm := fun z => by
    have := s2 _ _ (upd_same (H := H1) (a := dm) (o := .frz od (.dT (kvsT M))))
    rw [← z, ntb] at this
    cases this
  have dT : T ≠ dm := fun z => by
    rw [z, upd_same] at nT
    cases nT
  have e3 : (upd H2 tb (.lst [.ref T])) dm = some (.frz od (.dT (kvsT M))) := s3 _ _ (s2 _ _ upd_same)
  refine ⟨e3, ?_⟩
  have s4 : Same H1 (upd (upd H2 tb (.lst [.ref T])) dm (.dT (kvsT M))) := lock_same e1 (s2.trans s3)
  have ntb1 : H1 tb = none := by
    have := same_none s2 ntb
    rw [upd_ne dtb] at this
    exact this
  have t4 : (upd (upd H2 tb (.lst [.ref T])) dm (.dT (kvsT M))) tb = some (.lst [.ref T]) := by rw [upd_ne dtb, upd_same]
  have T4 : (upd (upd H2 tb (.lst [.ref T])) dm (.dT (kvsT M))) T = some (.dT (tabF (Mt.cnt (stepL D os) n emp 0) M)) := by
    rw [upd_ne dT]
    exact s3 _ _ eT
  generalize upd (upd H2 tb (.lst [.ref T])) dm (.dT (kvsT M)) = H4 at s4 t4 T4 ⊢
  -- the further tables
  refine ⟨fun mm σ H' => ∃ tvs, σ = [some h, some (.ref ob), some (.ref sa), some (nV L), some (.ref dm), wv, some (.ref fo), o7, o8, some (.ref tb), none] ∧ Same H1 H' ∧ H' tb = some (.lst tvs) ∧ 1 ≤ tvs.length ∧ tvs.length ≤ L + 1 ∧ (∀ (m : Nat) (v : V), tvs[m]? = some v → ∃ d, v = .ref d ∧ d ≠ dm ∧ H' d = some (.dT (tabF (Mt.cnt (stepL D os) n emp m) M))) ∧ mm = L + 1 - tvs.length,
    ⟨_, [.ref T], rfl, s4, t4, Nat.le_refl _, by simp, fun m v hv => ?_, rfl⟩, fun mm σ H5 ⟨tvs, eσ, s5, t5, l5, u5, r5, em⟩ => ?_⟩
  · cases m with
    | zero =>
      simp at hv
      subst hv
      exact ⟨T, rfl, dT, T4⟩
    | succ m => simp at hv
  subst eσ
  refine ⟨_, rfl, _, _, rfl, .inl (SqL.of t5), _, rfl, _, _, rfl, rfl, _, rfl, ?_⟩
  by_cases hl : tvs.length ≤ L
  · refine if_t (decide_eq_true (by omega)) ⟨_, fun σ' H' h => h, ?_⟩
    have e5 := s5 _ _ e1
    refine ⟨dm, .dT (kvsT M), e5, trivial, fun od => ?_⟩
    have x5 : SmX dm H5 (upd H5 dm (.frz od (.dT (kvsT M)))) := smx_upd
    have i5 : SmI H5 (upd H5 dm (.frz od (.dT (kvsT M)))) := smi_x e5 (fun z => z) x5
    have tdm : tb ≠ dm := dtb
    obtain ⟨m, hm⟩ : ∃ m, tvs.length = m + 1 := ⟨tvs.length - 1, by omega⟩
    obtain ⟨lv, hlv⟩ := lt_get (xs := tvs) (i := m) (by omega)
    obtain ⟨d, rfl, ddm, hd⟩ := r5 m lv hlv
    refine ⟨_, rfl, .inl ⟨rfl, _, SqL.of (x5 _ _ tdm t5)⟩, ?_⟩
    simp only [tCons]
    refine tab_comp (i := 4) (j := 7) (od := od) (σ := [some h, some (.ref ob), some (.ref sa), some (nV L), some (.ref dm), wv, some (.ref fo), o7, o8, some (.ref tb), none]) (f := Mt.cnt (stepL D os) n emp (m + 1)) rfl (fun _ => rfl) (fun _ => rfl) upd_same nd (by omega) (fun l x H6 hl6 s6 hx Qk hk => ?_) (fun T H6 nT s6 eT => ?_)
    · obtain ⟨b, rfl, hb⟩ := hx
      obtain ⟨a, fvs, hva, _, ha, hp⟩ := fol l hl6
      have adm : a ≠ dm := fun z => by rw [z, e1] at ha; cases ha
      have hl5 : ∀ x o, x ≠ dm → H1 x = some o → H6 x = some o := fun x o hx e => s6 _ _ (x5 _ _ hx (s5 _ _ e))
      have f6 := hl5 _ _ (Ne.symm dmfo) f1
      have a6 := hl5 _ _ adm ha
      have fl : fvs.length = n := by rw [Paired.len hp, nexts_len]
      have i6 : SmI H1 H6 := ((smi s5).trans i5).trans (smi s6)
      refine ⟨_, rfl, _, rfl, fo, .ref a, rfl, dget_t (k := kN l) f6 (by rw [kN_map]; exact hb) hva, a, fvs, .L, rfl, SqL.of a6, ?_⟩
      intro S nS
      refine lc_map nS (iw_seq (k := .L) (p := 8)) (fun _ => rfl) (by have := gd.n6; omega) (fun H7 s7 => SqL.of (s7 _ _ a6)) (fun c _ y => y = nV (Mt.cnt (stepL D os) n emp m (stepL D os l c))) (fun _ _ _ _ _ h => h) (fun c H7 hc s7 Qk2 hk2 => ?_) (fun H7 ys s7 e7 l7 r7 => ?_)
      · rw [fl] at hc
        obtain ⟨v, hv, hv2⟩ := Paired.get hp (nexts_get (D := D) (os := os) (l := l) hc)
        rw [get_getD hv]
        obtain ⟨vb, rfl, hvb⟩ := ImmR.mono (i6.trans (smi s7)) hv2
        have hcM := cl l hl6 c hc
        refine ⟨_, rfl, _, rfl, tb, tvs, _, .ref d, rfl, rfl, SqL.of (s7 _ _ (s6 _ _ (x5 _ _ tdm t5))), ?_, _, rfl, d, _, rfl, dget_t (k := kN (stepL D os l c)) (s7 _ _ (s6 _ _ (x5 _ _ ddm hd))) (by rw [kN_map]; exact hvb) (by rw [tabF_get, if_pos hcM]), hk2 _ _ (Same.refl _) rfl⟩
        have : tvs = tvs.take m ++ [.ref d] := by
          have h0 : tvs.take (m + 1) = tvs := by rw [← hm, List.take_length]
          have h1 := List.take_succ (l := tvs) (i := m)
          rw [hlv, h0] at h1
          exact h1
        rw [this]
        exact atI_last _ _
      · rw [fl] at l7
        refine ⟨S, (List.range n).map fun c => ((Mt.cnt (stepL D os) n emp m (stepL D os l c) : Nat) : Int), rfl, SqL.of (by rw [← nums_eq l7 r7]; exact e7), ?_⟩
        rw [sum_cast]
        exact hk _ s7
    · have dT : T ≠ dm := fun z => by rw [z, upd_same] at nT; cases nT
      have t6 := s6 _ _ (x5 _ _ tdm t5)
      have e6 := s6 _ _ (upd_same (H := H5) (a := dm) (o := .frz od (.dT (kvsT M))))
      refine ⟨tb, tvs, _, rfl, rfl, t6, Nat.lt_of_le_of_lt (by omega : tvs.length ≤ 1001) (by decide), ?_, ?_⟩
      · show (upd H6 tb (.lst (tvs ++ [.ref T]))) dm = _
        rw [upd_ne (Ne.symm tdm)]
        exact e6
      · have sm : Same H1 (upd (upd H6 tb (.lst (tvs ++ [.ref T]))) dm (.dT (kvsT M))) := fun x o hx => by
          by_cases z : x = dm
          · subst z
            rw [upd_same]
            rw [e1] at hx
            exact hx
          · rw [upd_ne z, upd_ne (fun z2 => by rw [z2, ntb1] at hx; cases hx)]
            exact s6 _ _ (x5 _ _ z (s5 _ _ hx))
        have hl2 : (tvs ++ [V.ref T]).length = tvs.length + 1 := by simp
        refine ⟨_, (by omega : L + 1 - (tvs ++ [V.ref T]).length < mm), tvs ++ [.ref T], trivial, sm, ?_, ?_, ?_, fun m' v hv => ?_, rfl⟩
        · rw [upd_ne tdm, upd_same]
        · simp
        · simp; omega
        · by_cases hm' : m' < tvs.length
          · rw [List.getElem?_append_left hm'] at hv
            obtain ⟨d', rfl, ddm', hd'⟩ := r5 m' v hv
            refine ⟨d', rfl, ddm', ?_⟩
            rw [upd_ne ddm', upd_ne (fun z => by rw [z, t5] at hd'; cases hd')]
            exact s6 _ _ (x5 _ _ ddm' hd')
          · rw [List.getElem?_append_right (by omega)] at hv
            have : m' = tvs.length := by
              have := (List.getElem?_eq_some_iff.mp hv).1
              simp at this
              omega
            subst this
            simp at hv
            subst hv
            refine ⟨T, rfl, dT, ?_⟩
            rw [upd_ne dT, upd_ne (fun z => by rw [z, t6] at eT; cases eT), hm]
            exact eT
  · refine if_f (decide_eq_false (by omega)) ?_
    refine ⟨_, rfl, _, rfl, (by show 2 ≤ sizeLine; decide), fun t nt => ?_⟩
    have s6 := same_new (o := .tup [.ref tb, .ref fo]) nt
    obtain ⟨v, hv⟩ := lt_get (xs := tvs) (i := L) (by omega)
    obtain ⟨d, rfl, _, hd⟩ := r5 L v hv
    exact q _ _ (s1.trans (s5.trans s6)) ⟨t, tb, _, tvs, d, M, rfl, upd_same, s6 _ _ t5, hv, osM, s6 _ _ hd⟩
def sp_count_words (K : PySem.W.Frag) : Sp := S6 fun h v qv av r lv H Q _ => ∃ D n qs RF L, Pre K H h v qv av r D n qs ∧ Fam D (othersOf qs) n RF ∧ lv = nV L ∧ L ≤ 1000 ∧ ∀ H', Same H H' → Q (nV (Mt.cnt (stepL D (othersOf qs)) n emp L (othersOf qs))) H'
theorem rd_count_words {vs : List V} {H : Hp} {Q : VK} {E : XK} (h : sp_count_words K vs H Q E) : t_count_words P w K (sp_need_sight K) sp_need_length (sp_settled_tables K) (Dn Q) (start N_count_words vs) H := by
  obtain ⟨h, v, qv, av, r, lv, rfl, D, n, qs, RF, L, p, F, rfl, hL, q⟩ := h
  have oko := others_ok p.ql
  refine ⟨_, rfl, _, rfl, _, rfl, _, rfl, _, rfl, _, _, _, _, _, rfl, D, n, qs, p.hs, p.hv, p.hq, p.ql, p.ha, p.hr, p.gd, fun u H1 s1 ⟨t, o, s, eu, ht, ho, hsh⟩ => ?_⟩
  subst eu
  refine ⟨t, _, rfl, SqT.of ht, rfl, _, _, rfl, _, _, rfl, rfl, ?_⟩
  refine ⟨_, rfl, _, rfl, L, rfl, ?_⟩
  refine ⟨_, rfl, _, rfl, _, rfl, _, rfl, _, _, _, _, rfl, D, n, othersOf qs, RF, L, SamR.mono s1 p.hs, p.gd, ho, hsh, oko, F, rfl, hL, fun u H2 s2 ⟨t2, tb, fo, tvs, d, M, eu, h2, h3, h4, h5, h6⟩ => ?_⟩
  subst eu
  obtain ⟨ob, rfl, hob⟩ := SamR.mono s2 ho
  refine ⟨t2, _, _, _, rfl, rfl, SqT.of h2, rfl, _, rfl, tb, tvs, _, _, rfl, rfl, SqL.of h3, atI_nat h4, _, rfl, d, _, rfl, dget_t (k := kN (othersOf qs)) h6 (by rw [kN_map]; exact hob) (by rw [tabF_get, if_pos h5]), ?_⟩
  exact q _ (s1.trans s2)
end
end K24
set_option Elab.async false
set_option linter.all false
set_option maxRecDepth 100000
set_option maxHeartbeats 4000000
namespace K24
open PySem PySem.Spec PyProof.Rows L2
/-! ### the law's own defs: what is drawn -/
structure DealX (H : Hp) (d l : Addr) (xs : List Int) (b : Int) : Prop where
  hd : H d = some (.lst [.ref l, .int b])
  hl : H l = some (.lst (xs.map V.int))
  len : xs.length ≤ 48
def Deal (H : Hp) (d l : Addr) : Prop := ∃ xs b, DealX H d l xs b
def Off (d l : Addr) (H H' : Hp) : Prop := ∀ x o, x ≠ d → x ≠ l → H x = some o → H' x = some o
theorem Off.refl (d l : Addr) (H : Hp) : Off d l H H := fun _ _ _ _ h => h
theorem Off.trans {d l : Addr} {H H1 H2 : Hp} (a : Off d l H H1) (b : Off d l H1 H2) : Off d l H H2 := fun x o h1 h2 h => b x o h1 h2 (a x o h1 h2 h)
theorem off {d l : Addr} {H H' : Hp} (s : Same H H') : Off d l H H' := fun x o _ _ h => s x o h
theorem off_d {d l : Addr} {H : Hp} {o : HO} : Off d l H (upd H d o) := fun x u h1 _ h => by rw [upd_ne h1]; exact h
theorem off_l {d l : Addr} {H : Hp} {o : HO} : Off d l H (upd H l o) := fun x u _ h2 h => by rw [upd_ne h2]; exact h
theorem DealX.ne {H : Hp} {d l : Addr} {xs : List Int} {b : Int} (h : DealX H d l xs b) : d ≠ l := fun z => by
  have h1 := h.hd
  have h2 := h.hl
  rw [z, h2] at h1
  injection h1 with h1
  injection h1 with h1
  cases xs with
  | nil => cases h1
  | cons x r =>
    rw [List.map_cons] at h1
    injection h1 with h1
    cases h1
theorem DealX.same {H H' : Hp} {d l : Addr} {xs : List Int} {b : Int} (s : Same H H') (h : DealX H d l xs b) : DealX H' d l xs b := ⟨s _ _ h.hd, s _ _ h.hl, h.len⟩
theorem Off.smi {d l : Addr} {H H' : Hp} (h : Deal H d l) (s : Off d l H H') : SmI H H' := fun x o i e => s x o (fun z => by
  obtain ⟨_, _, D⟩ := h
  rw [z, D.hd] at e; cases e; exact i) (fun z => by
  obtain ⟨_, _, D⟩ := h
  rw [z, D.hl] at e; cases e; exact i) e
theorem eqv_empty (xs : List Int) : PyData.eqv (.list (xs.map PyData.int)) (.list []) = decide (xs = []) := by
  cases xs with
  | nil => simp only [List.map_nil, PyData.eqv, PyData.eqvAll, decide_true]
  | cons x r => simp only [List.map_cons, PyData.eqv, PyData.eqvAll]; exact (decide_eq_false (fun z => nomatch z)).symm
theorem dp_ints {K : PySem.W.Frag} {H : Hp} : ∀ xs : List Int, DpAll K H (xs.map V.int) (xs.map PyData.int)
  | [] => .nil
  | x :: r => .cons (.int _) (dp_ints r)
theorem dok_ints (xs : List Int) : DOk (.list (xs.map PyData.int)) 1 := dok_lst fun x hx => by
  obtain ⟨n, _, rfl⟩ := List.mem_map.mp hx
  exact dok_int _ _
theorem last_int {xs : List Int} (h : xs ≠ []) : ∃ r z, xs = r ++ [z] := ⟨xs.dropLast, xs.getLast h, (List.dropLast_concat_getLast h).symm⟩
section
variable {P : Program} {w : World} {K : PySem.W.Frag} {mg : Str → Option Value}
/-- deal[0] != [] -/
theorem some_left {H : Hp} {d l : Addr} {xs : List Int} {b : Int} {σ : L2.St} {Q : Bool → Hp → Prop} (h0 : σ[0]? = some (some (.ref d))) (D : DealX H d l xs b) (q : ∀ H', Same H H' → Q (!decide (xs = [])) H') : tTest (tOp (rNeD K) (tOp (rIxL K) (tVar 0) (tC (.int 0))) (tLst tNil)) σ H Q := by
  refine ⟨_, h0, d, _, _, .ref l, rfl, rfl, SqL.of D.hd, rfl, Nat.zero_le _, fun p np => ?_⟩
  have s := same_new (o := .lst []) np
  refine ⟨.list (xs.map PyData.int), .list [], .lst (SqL.of (s _ _ D.hl)) (dp_ints xs), .lst (SqL.of upd_same) .nil, (dok_ints xs).shaped (by decide), (dok_ints []).shaped (by decide), _, rfl, ?_⟩
  rw [eqv_empty]
  exact q _ s
def sp_law_any : Sp := S2 fun dv bv H Q _ => ∃ d l n, dv = .ref d ∧ Deal H d l ∧ bv = nV n ∧ 1 ≤ n ∧ n ≤ 1000 ∧ ∀ r H', Off d l H H' → Deal H' d l → r < n → Q (nV r) H'
theorem emod_nat {a : Int} {n : Nat} (h : 1 ≤ n) : ∃ r : Nat, a % (n : Int) = (r : Int) ∧ r < n := by
  refine ⟨(a % (n : Int)).toNat, ?_, ?_⟩
  · rw [Int.toNat_of_nonneg (Int.emod_nonneg _ (by omega))]
  · have := Int.emod_lt_of_pos a (show (0 : Int) < n by omega)
    have := Int.emod_nonneg a (show (n : Int) ≠ 0 by omega)
    omega
theorem rd_law_any {vs : List V} {H : Hp} {Q : VK} {E : XK} (h : sp_law_any vs H Q E) : t_law_any P w K (Dn Q) (start N_law_any vs) H := by
  obtain ⟨dv, bv, rfl, d, l, n, rfl, ⟨xs0, b0, D0⟩, rfl, h1, h1000, q⟩ := h
  refine ⟨fun mm σ H' => ∃ xs b, σ = [some (.ref d), some (nV n), none] ∧ Off d l H H' ∧ DealX H' d l xs b ∧ mm = xs.length, ⟨_, xs0, b0, rfl, Off.refl _ _ _, D0, rfl⟩, fun mm σ H1 ⟨xs, b, e, o1, D1, em⟩ => ?_⟩
  subst e
  refine some_left rfl D1 fun H2 s2 => ?_
  have D2 := D1.same s2
  have o2 := o1.trans (off (d := d) (l := l) s2)
  -- behind the loop
  have rest : ∀ H2 xs b, Off d l H H2 → DealX H2 d l xs b → tSeq (tIfS (tTest (tOp (rNeD K) (tOp (rIxL K) (tVar 0) (tC (.int 0))) (tLst tNil))) (tSeq (tAsg (tCB rInt1 (tCons (tBM0 K "list" rPop (tOp (rIxL K) (tVar 0) (tC (.int 0)))) tNil)) (gName 2))
      (tSeq (tDrop (tBM K "list" rAppend (tOp (rIxL K) (tVar 0) (tC (.int 0))) (tCons (tOp (rI CDivN fun i j => .int (i.fdiv j)) (tVar 2) (tVar 1)) tNil)))
      (tRet (tOp (rI (fun _ j => 0 < j) fun i j => .int (i % j)) (tVar 2) (tVar 1))))) tNext)
      (tSeq (tAsg (tOp (rI (fun _ j => 0 < j) fun i j => .int (i % j)) (tCB rInt1 (tCons (tOp (rI0 fun i j => .int (i + j)) (tOp (rI CMul fun i j => .int (i * j)) (tOp (rIxL K) (tVar 0) (tC (.int 1))) (tC (.int 48271))) (tC (.int 97))) tNil)) (tC (.int 2147483647))) (gSub (tVar 0) (tC (.int 1)) rSetL))
      (tRet (tOp (rI (fun _ j => 0 < j) fun i j => .int (i % j)) (tCB rInt1 (tCons (tOp (rI CDivN fun i j => .int (i.fdiv j)) (tOp (rIxL K) (tVar 0) (tC (.int 1))) (tC (.int 64))) tNil)) (tVar 1)))) (Dn Q) [some (.ref d), some (nV n), none] H2 := by
    intro H2 xs b o2 D2
    refine some_left rfl D2 fun H3 s3 => ?_
    have D3 := D2.same s3
    have o3 := o2.trans (off (d := d) (l := l) s3)
    by_cases hx : xs = []
    · refine if_f (by rw [hx]; rfl) ?_
      refine ⟨_, rfl, d, _, _, .int b, rfl, rfl, SqL.of D3.hd, rfl, b, 48271, rfl, rfl, .inr (by decide), _, 97, rfl, rfl, .inl ⟨_, rfl, _, 2147483647, rfl, rfl, (by show (0 : Int) < 2147483647; decide), ?_⟩⟩
      refine ⟨_, rfl, d, _, 1, 1, rfl, rfl, D3.hd, rfl, ?_⟩
      have hd4 : ∀ z : Int, (upd H3 d (.lst ([V.ref l, .int b].set 1 (.int z)))) d = some (.lst [.ref l, .int z]) := fun z => upd_same
      refine ⟨_, rfl, d, _, _, _, rfl, rfl, SqL.of (hd4 _), rfl, _, 64, rfl, rfl, ⟨by decide, by decide⟩, .inl ⟨_, rfl, _, rfl, _, (n : Int), rfl, rfl, by omega, ?_⟩⟩
      obtain ⟨r, er, hr⟩ := emod_nat (a := ((b * 48271 + 97) % 2147483647).fdiv 64) h1
      show Q (.int (((b * 48271 + 97) % 2147483647).fdiv 64 % (n : Int))) _
      rw [er]
      refine q r _ (o3.trans off_d) ⟨xs, _, hd4 _, ?_, D3.len⟩ hr
      rw [upd_ne (Ne.symm D3.ne)]
      exact D3.hl
    · refine if_t (by rw [decide_eq_false hx]; rfl) ?_
      obtain ⟨r, z, rfl⟩ := last_int hx
      have hl := D3.hl
      have hlen := D3.len
      rw [List.length_append] at hlen
      simp at hlen
      rw [List.map_append] at hl
      refine ⟨_, rfl, d, _, _, .ref l, rfl, rfl, SqL.of D3.hd, rfl, .inl ⟨rfl, _, SqL.of hl⟩, l, _, .int z, rfl, rfl, hl, by simp, .inl ⟨z, rfl, ?_⟩⟩
      have hd4 : ∀ o, (upd H3 l o) d = some (.lst [.ref l, .int b]) := fun o => by rw [upd_ne D3.ne]; exact D3.hd
      have hl4 : (upd H3 l (.lst ((r.map V.int ++ [V.int z]).dropLast))) l = some (.lst (r.map V.int)) := by rw [upd_same, List.dropLast_concat]
      refine ⟨_, rfl, d, _, _, .ref l, rfl, rfl, SqL.of (hd4 _), rfl, .inl ⟨rfl, _, SqL.of hl4⟩, _, rfl, _, rfl, z, (n : Int), rfl, rfl, ⟨by omega, by omega⟩, l, _, _, rfl, rfl, hl4, ?_, ?_⟩
      · rw [List.length_map]
        exact Nat.lt_of_le_of_lt (by omega : r.length ≤ 1000) (by decide)
      · refine ⟨_, rfl, _, rfl, z, (n : Int), rfl, rfl, by omega, ?_⟩
        obtain ⟨m, er, hr⟩ := emod_nat (a := z) h1
        show Q (.int (z % (n : Int))) _
        rw [er]
        refine q m _ ((o3.trans off_l).trans off_l) ⟨r ++ [z.fdiv (n : Int)], b, ?_, ?_, by simp; omega⟩ hr
        · rw [upd_ne D3.ne]
          exact hd4 _
        · rw [upd_same, List.map_append]
          rfl
  by_cases hx : xs = []
  · refine if_f (by rw [hx]; rfl) (if_f rfl (rest H2 xs b o2 D2))
  · refine if_t (by rw [decide_eq_false hx]; rfl) ?_
    obtain ⟨r, z, rfl⟩ := last_int hx
    have hl := D2.hl
    have hlen := D2.len
    rw [List.length_append] at hlen
    simp at hlen
    rw [List.map_append] at hl
    refine ⟨_, rfl, d, _, _, .ref l, rfl, rfl, SqL.of D2.hd, rfl, _, rfl, l, _, _, .int z, rfl, rfl, SqL.of hl, atI_last _ _, rfl, _, rfl, ?_⟩
    by_cases hz : z = 0
    · refine if_t (decide_eq_true (by rw [hz])) ⟨_, fun σ' H' h => h, ?_⟩
      refine ⟨_, rfl, d, _, _, .ref l, rfl, rfl, SqL.of D2.hd, rfl, .inl ⟨rfl, _, SqL.of hl⟩, l, _, .int z, rfl, rfl, hl, by simp, ?_⟩
      refine ⟨_, ?_, r, b, rfl, o2.trans off_l, ⟨?_, ?_, by omega⟩, rfl⟩
      · rw [em, List.length_append]
        simp
      · rw [upd_ne D2.ne]
        exact D2.hd
      · rw [upd_same]
        show some (HO.lst (r.map V.int ++ [V.int z]).dropLast) = _
        rw [List.dropLast_concat]
    · refine if_f (decide_eq_false fun e => hz (V.int.inj e)) (rest H2 _ b o2 D2)
def sp_law_of : Sp := S2 fun dv sv H Q _ => ∃ d l a vs, dv = .ref d ∧ Deal H d l ∧ sv = .ref a ∧ a ≠ d ∧ a ≠ l ∧ H a = some (.lst vs) ∧ 1 ≤ vs.length ∧ vs.length ≤ 1000 ∧ ∀ (i : Nat) (v : V) (H' : Hp), Off d l H H' → Deal H' d l → vs[i]? = some v → Q v H'
theorem rd_law_of {vs : List V} {H : Hp} {Q : VK} {E : XK} (h : sp_law_of vs H Q E) : t_law_of P w K sp_law_any (Dn Q) (start N_law_of vs) H := by
  obtain ⟨dv, sv, rfl, d, l, a, ws, rfl, D, rfl, ad, al, ha, h1, h1000, q⟩ := h
  refine ⟨_, rfl, _, rfl, _, rfl, _, _, rfl, .inl (SqL.of ha), _, _, rfl, d, l, ws.length, rfl, D, rfl, h1, h1000, fun r H' o D' hr => ?_⟩
  obtain ⟨v, hv⟩ := lt_get hr
  exact ⟨a, ws, _, v, rfl, rfl, SqL.of (o _ _ ad al ha), atI_nat hv, q r v H' o D' hv⟩
/-- a fresh list of numbers below n, at most m of them -/
def sp_law_word : Sp := S3 fun dv nv mv H Q _ => ∃ d l n m, dv = .ref d ∧ Deal H d l ∧ nv = nV n ∧ 1 ≤ n ∧ n ≤ 1000 ∧ mv = nV m ∧ m ≤ 100 ∧ ∀ a ws H', Off d l H H' → Deal H' d l → H a = none → a ≠ d → a ≠ l → H' a = some (.lst (NL ws)) → (∀ x ∈ ws, x < n) → ws.length ≤ m → Q (.ref a) H'
theorem rd_law_word {vs : List V} {H : Hp} {Q : VK} {E : XK} (h : sp_law_word vs H Q E) : t_law_word P w K sp_law_any (Dn Q) (start N_law_word vs) H := by
  obtain ⟨dv, nv, mv, rfl, d, l, n, m, rfl, D, rfl, h1, h1000, rfl, hm, q⟩ := h
  refine ⟨_, rfl, _, rfl, _, 1, rfl, rfl, _, _, rfl, d, l, m + 1, rfl, D, rfl, by omega, by omega, fun r H1 o1 D1 hr => ?_⟩
  refine ⟨_, rfl, by omega, by omega, ?_⟩
  intro A nA
  rw [Int.toNat_natCast]
  have off_none : ∀ {H' : Hp}, Off d l H H' → ∀ x, x ≠ d → x ≠ l → H' x = none → H x = none := fun {H'} o x xd xl e => by
    cases z : H x with
    | none => rfl
    | some u => rw [o x u xd xl z] at e; cases e
  obtain ⟨xs1, b1, D1x⟩ := D1
  have Ad : A ≠ d := fun z => by rw [z, D1x.hd] at nA; cases nA
  have Al : A ≠ l := fun z => by rw [z, D1x.hl] at nA; cases nA
  have D1 : Deal H1 d l := ⟨xs1, b1, D1x⟩
  have sA := same_new (o := .lst []) nA
  refine lc_go (iw_range (p := 3)) (fun _ => rfl) (Qd := fun H' => Q (.ref A) H') (fun i H' => ∃ ws, Off d l H1 H' ∧ Deal H' d l ∧ H' A = some (.lst (NL ws)) ∧ ws.length = i ∧ ∀ x ∈ ws, x < n) ⟨[], off sA, ⟨xs1, b1, D1x.same sA⟩, upd_same, rfl, fun x hx => by cases hx⟩ (fun _ _ _ _ => trivial) (fun i H2 H3 hi ⟨ws, o2, D2, e2, l2, f2⟩ s3 => ?_) (fun H2 ⟨ws, o2, D2, e2, l2, f2⟩ => ?_)
  · simp only [tYes, if_true]
    obtain ⟨xs2, b2, D2x⟩ := D2
    refine ⟨_, rfl, _, rfl, _, _, rfl, d, l, n, rfl, ⟨xs2, b2, D2x.same s3⟩, rfl, h1, h1000, fun y H4 o4 D4 hy => ?_⟩
    have e4 := o4 _ _ Ad Al (s3 _ _ e2)
    refine ⟨_, e4, by rw [nl_len]; exact Nat.lt_of_le_of_lt (by omega : ws.length ≤ 1000) (by decide), ws ++ [y], ?_, ?_, ?_, by simp [l2], fun x hx => ?_⟩
    · intro x o xd xl e
      rw [upd_ne (fun z => by rw [z, nA] at e; cases e)]
      exact o4 _ _ xd xl (s3 _ _ (o2 _ _ xd xl e))
    · obtain ⟨xs4, b4, D4x⟩ := D4
      exact ⟨xs4, b4, by rw [upd_ne (Ne.symm Ad)]; exact D4x.hd, by rw [upd_ne (Ne.symm Al)]; exact D4x.hl, D4x.len⟩
    · rw [upd_same]
      unfold NL
      rw [List.map_append]
      rfl
    · rcases List.mem_append.mp hx with h | h
      · exact f2 x h
      · simp at h
        omega
  · exact q A ws H2 (o1.trans o2) D2 (off_none o1 A Ad Al nA) Ad Al e2 f2 (by omega)
end
end K24
set_option Elab.async false
set_option linter.all false
set_option maxRecDepth 100000
set_option maxHeartbeats 4000000
namespace K24
open PySem PySem.Spec PyProof.Rows L2
theorem off_none {d l : Addr} {H H' : Hp} (o : Off d l H H') {x : Addr} (xd : x ≠ d) (xl : x ≠ l) (e : H' x = none) : H x = none := by
  cases z : H x with
  | none => rfl
  | some u => rw [o x u xd xl z] at e; cases e
/-- off from H, then a place that H does not know is written -/
theorem off_out {d l : Addr} {H H' : Hp} {p : Addr} {u : HO} (o : Off d l H H') (n : H p = none) : Off d l H (upd H' p u) := fun x v xd xl e => by
  rw [upd_ne (fun z => by rw [z, n] at e; cases e)]
  exact o x v xd xl e
theorem Deal.same {H H' : Hp} {d l : Addr} (s : Same H H') (h : Deal H d l) : Deal H' d l := let ⟨xs, b, D⟩ := h; ⟨xs, b, D.same s⟩
theorem Deal.ne {H : Hp} {d l p : Addr} (h : Deal H d l) (n : H p = none) : p ≠ d ∧ p ≠ l := by
  obtain ⟨xs, b, D⟩ := h
  exact ⟨(fun z => by rw [z, D.hd] at n; cases n), (fun z => by rw [z, D.hl] at n; cases n)⟩
theorem Deal.out {H : Hp} {d l p : Addr} {u : HO} (h : Deal H d l) (pd : p ≠ d) (pl : p ≠ l) : Deal (upd H p u) d l := by
  obtain ⟨xs, b, D⟩ := h
  exact ⟨xs, b, by rw [upd_ne (Ne.symm pd)]; exact D.hd, by rw [upd_ne (Ne.symm pl)]; exact D.hl, D.len⟩
theorem count_cast : ∀ (l : List Nat) (k : Nat), (l.map fun n : Nat => (n : Int)).count (k : Int) = l.count k
  | [], _ => rfl
  | x :: r, k => by
    rw [List.map_cons, List.count_cons, List.count_cons, count_cast r k]
    by_cases h : x = k
    · subst h
      simp
    · have h2 : ¬ ((x : Int) = (k : Int)) := fun z => h (Int.ofNat.inj z)
      rw [if_neg (by simpa using h2), if_neg (by simpa using h)]
/-- a told word over c cells -/
structure ToldW (c : Nat) (w : List Nat) : Prop where
  ne : w ≠ []
  len : w.length ≤ 4
  lt : ∀ x ∈ w, x < c
  adj : ∀ (i x y : Nat), w[i]? = some x → w[i + 1]? = some y → x ≠ y
structure ToldWs (c : Nat) (ws : List (List Nat)) : Prop where
  c2 : 2 ≤ c
  c4 : c ≤ 4
  ne : ws ≠ []
  len : ws.length ≤ 3
  word : ∀ w ∈ ws, ToldW c w
  five : ∀ x, ws.flatten.count x ≤ 5
structure WordsAt (H : Hp) (d l : Addr) (a : Addr) (ps : List Addr) (ws : List (List Nat)) : Prop where
  ad : a ≠ d
  al : a ≠ l
  at_ : H a = some (.lst (ps.map V.ref))
  len : ps.length = ws.length
  row : ∀ (i : Nat) (p : Addr) (w : List Nat), ps[i]? = some p → ws[i]? = some w → p ≠ d ∧ p ≠ l ∧ H p = some (.lst (NL w))
theorem WordsAt.off {H H' : Hp} {d l a : Addr} {ps : List Addr} {ws : List (List Nat)} (o : Off d l H H') (h : WordsAt H d l a ps ws) : WordsAt H' d l a ps ws :=
  ⟨h.ad, h.al, o _ _ h.ad h.al h.at_, h.len, fun i p w h1 h2 => let ⟨x, y, z⟩ := h.row i p w h1 h2; ⟨x, y, o _ _ x y z⟩⟩
section
variable {P : Program} {w : World} {K : PySem.W.Frag} {mg : Str → Option Value}
def sp_law_told_word : Sp := S2 fun dv cv H Q _ => ∃ d l c, dv = .ref d ∧ Deal H d l ∧ cv = nV c ∧ 2 ≤ c ∧ c ≤ 4 ∧ ∀ a w H', Off d l H H' → Deal H' d l → H a = none → a ≠ d → a ≠ l → H' a = some (.lst (NL w)) → ToldW c w → Q (.ref a) H'
theorem rd_law_told_word {vs : List V} {H : Hp} {Q : VK} {E : XK} (h : sp_law_told_word vs H Q E) : t_law_told_word P w K sp_law_any (Dn Q) (start N_law_told_word vs) H := by
  obtain ⟨dv, cv, rfl, d, l, c, rfl, D, rfl, c2, c4, q⟩ := h
  refine ⟨_, rfl, _, rfl, _, _, rfl, d, l, c, rfl, D, rfl, by omega, by omega, fun r0 H1 o1 D1 hr0 => ?_⟩
  refine ⟨(by show 1 ≤ sizeLine; decide), fun a na => ?_⟩
  have s1 := same_new (o := .lst [nV r0]) na
  obtain ⟨ad, al⟩ := D1.ne na
  have na0 := off_none o1 ad al na
  have D2 := D1.same s1
  have e2 : (upd H1 a (.lst [nV r0])) a = some (.lst (NL [r0])) := upd_same
  have o2 : Off d l H (upd H1 a (.lst [nV r0])) := off_out o1 na0
  generalize upd H1 a (.lst [nV r0]) = H2 at D2 e2 o2 ⊢
  refine ⟨_, rfl, _, _, rfl, d, l, 4, rfl, D2, rfl, by omega, by omega, fun r H3 o3 D3 hr => ?_⟩
  refine ⟨_, rfl, by omega, by omega, ?_⟩
  rw [Int.toNat_natCast]
  refine for_go (iw_range (p := 3)) (fun i σ H' => ∃ o3 ws, σ = [some (.ref d), some (nV c), some (.ref a), o3] ∧ Off d l H H' ∧ Deal H' d l ∧ H' a = some (.lst (NL ws)) ∧ ws.length = i + 1 ∧ (∀ x ∈ ws, x < c) ∧ ∀ (i x y : Nat), ws[i]? = some x → ws[i + 1]? = some y → x ≠ y)
    ⟨_, [r0], rfl, o2.trans o3, D3, o3 _ _ ad al e2, rfl, fun x hx => by simp at hx; omega, fun i x y _ hy => by simp at hy⟩ (fun _ _ _ _ _ => trivial) (fun i σ H4 H5 hi ⟨x3, ws, e, o4, D4, e4, l4, f4, g4⟩ s5 => ?_) (fun σ H4 ⟨x3, ws, e, o4, D4, e4, l4, f4, g4⟩ => ?_)
  · subst e
    have D5 := D4.same s5
    have e5 := s5 _ _ e4
    have hne : ws ≠ [] := fun z => by rw [z] at l4; cases l4
    obtain ⟨r', z, rfl⟩ : ∃ r' z, ws = r' ++ [z] := ⟨ws.dropLast, ws.getLast hne, (List.dropLast_concat_getLast hne).symm⟩
    have hz := f4 z (by simp)
    have en : NL (r' ++ [z]) = NL r' ++ [nV z] := by unfold NL; rw [List.map_append]; rfl
    refine ⟨_, rfl, .inl ⟨rfl, _, SqL.of e5⟩, _, rfl, _, rfl, a, _, _, nV z, rfl, rfl, SqL.of e5, by rw [en]; exact atI_last _ _, _, 1, rfl, rfl, _, rfl, _, rfl, _, 1, rfl, rfl, _, _, rfl, d, l, c - 1, rfl, D5, ?_, by omega, by omega, fun y H6 o6 D6 hy => ?_⟩
    · show V.int ((c : Int) - 1) = nV (c - 1)
      congr 1
      omega
    have e6 := o6 _ _ ad al e5
    have em : ((z : Int) + 1 + (y : Int)) % (c : Int) = (((z + 1 + y) % c : Nat) : Int) := by
      have e1 : (z : Int) + 1 + (y : Int) = ((z + 1 + y : Nat) : Int) := by omega
      rw [e1]
      rfl
    refine ⟨_, _, rfl, rfl, .inl ⟨_, rfl, _, rfl, _, (c : Int), rfl, rfl, by omega, a, _, _, rfl, rfl, e6, ?_, ?_⟩⟩
    · rw [nl_len]
      exact Nat.lt_of_le_of_lt (by omega : (r' ++ [z]).length ≤ 1000) (by decide)
    · have hlt : (z + 1 + y) % c < c := Nat.mod_lt _ (by omega)
      have hnz : (z + 1 + y) % c ≠ z := by
        intro hh
        rcases Nat.lt_or_ge (z + 1 + y) c with h1 | h1
        · rw [Nat.mod_eq_of_lt h1] at hh
          omega
        · have h2 : z + 1 + y - c < c := by omega
          rw [Nat.mod_eq_sub_mod h1, Nat.mod_eq_of_lt h2] at hh
          omega
      refine ⟨_, r' ++ [z] ++ [(z + 1 + y) % c], rfl, off_out ((o4.trans (off s5)).trans o6) na0, D6.out ad al, ?_, by simp at l4 ⊢; omega, fun x hx => ?_, fun j x y' hx hy' => ?_⟩
      · rw [upd_same]
        have : NL (r' ++ [z] ++ [(z + 1 + y) % c]) = NL (r' ++ [z]) ++ [nV ((z + 1 + y) % c)] := by unfold NL; rw [List.map_append (l₁ := r' ++ [z])]; rfl
        rw [this]
        show some (HO.lst (NL (r' ++ [z]) ++ [V.int (((z : Int) + 1 + (y : Int)) % (c : Int))])) = _
        rw [em]
      · rcases List.mem_append.mp hx with h | h
        · exact f4 x h
        · simp at h
          omega
      · by_cases hj : j + 1 < (r' ++ [z]).length
        · rw [List.getElem?_append_left hj] at hy'
          rw [List.getElem?_append_left (by omega)] at hx
          exact g4 j x y' hx hy'
        · have hj2 : j + 1 = (r' ++ [z]).length := by
            have := (List.getElem?_eq_some_iff.mp hy').1
            rw [List.length_append] at this
            simp at this hj ⊢
            omega
          rw [List.getElem?_append_right (by omega), hj2] at hy'
          rw [List.getElem?_append_left (by omega)] at hx
          simp at hy'
          have hx2 : x = z := by
            have : j = r'.length := by simp at hj2; omega
            rw [this] at hx
            simp at hx
            exact hx.symm
          rw [hx2, ← hy']
          exact Ne.symm hnz
  · subst e
    exact ⟨_, rfl, q a ws H4 o4 D4 na0 ad al e4 ⟨(fun z => by rw [z] at l4; cases l4), by omega, f4, g4⟩⟩
def sp_law_told_words : Sp := S2 fun dv cv H Q _ => ∃ d l c, dv = .ref d ∧ Deal H d l ∧ cv = nV c ∧ 2 ≤ c ∧ c ≤ 4 ∧ ∀ a ps ws H', Off d l H H' → Deal H' d l → WordsAt H' d l a ps ws → ToldWs c ws → Q (.ref a) H'
theorem rd_law_told_words {vs : List V} {H : Hp} {Q : VK} {E : XK} (h : sp_law_told_words vs H Q E) : t_law_told_words P w K sp_law_told_word sp_law_any (Dn Q) (start N_law_told_words vs) H := by
  obtain ⟨dv, cv, rfl, d, l, c, rfl, D, rfl, c2, c4, q⟩ := h
  refine ⟨_, rfl, _, rfl, _, _, rfl, d, l, c, rfl, D, rfl, c2, c4, fun b w0 H1 o1 D1 nb bd bl eb tw => ?_⟩
  refine ⟨(by show 1 ≤ sizeLine; decide), fun a na => ?_⟩
  obtain ⟨ad, al⟩ := D1.ne na
  have na0 := off_none o1 ad al na
  have s1 := same_new (o := .lst [.ref b]) na
  have D2 := D1.same s1
  have o2 : Off d l H (upd H1 a (.lst [.ref b])) := off_out o1 na0
  have W2 : WordsAt (upd H1 a (.lst [.ref b])) d l a [b] [w0] := ⟨ad, al, upd_same, rfl, fun i p w hp hw => by
    cases i with
    | zero =>
      simp at hp hw
      subst hp hw
      exact ⟨bd, bl, s1 _ _ eb⟩
    | succ i => simp at hp⟩
  generalize upd H1 a (.lst [.ref b]) = H2 at D2 o2 W2 ⊢
  refine ⟨_, rfl, _, _, rfl, d, l, 3, rfl, D2, rfl, by omega, by omega, fun r H3 o3 D3 hr => ?_⟩
  refine ⟨_, rfl, by omega, by omega, ?_⟩
  rw [Int.toNat_natCast]
  refine for_go (iw_range (p := 3)) (fun i σ H' => ∃ x3 x4 x5 x6 ps ws, σ = [some (.ref d), some (nV c), some (.ref a), x3, x4, x5, x6, none] ∧ Off d l H H' ∧ Deal H' d l ∧ WordsAt H' d l a ps ws ∧ ws ≠ [] ∧ ws.length ≤ i + 1 ∧ (∀ w ∈ ws, ToldW c w) ∧ ∀ x, ws.flatten.count x ≤ 5)
    ⟨_, _, _, _, [b], [w0], rfl, o2.trans o3, D3, W2.off o3, by simp, by simp, fun w hw => by simp at hw; rw [hw]; exact tw, fun x => ?_⟩ (fun _ _ _ _ _ => trivial) (fun i σ H4 H5 hi ⟨x3, x4, x5, x6, ps, ws, e, o4, D4, W4, n4, l4, t4, f4⟩ s5 => ?_) (fun σ H4 ⟨x3, x4, x5, x6, ps, ws, e, o4, D4, W4, n4, l4, t4, f4⟩ => ?_)
  · have := List.count_le_length (a := x) (l := w0)
    have := tw.len
    simp
    omega
  · subst e
    have D5 := D4.same s5
    have o5 := o4.trans (off (d := d) (l := l) s5)
    refine ⟨_, rfl, _, rfl, _, _, rfl, d, l, c, rfl, D5, rfl, c2, c4, fun b2 w2 H6 o6 D6 nb2 b2d b2l eb2 tw2 => ?_⟩
    refine ⟨Nat.zero_le _, fun e1 ne1 => ⟨(by show 2 ≤ sizeLine; decide), fun t1 nt1 => ?_⟩⟩
    have s7 := (same_new (o := .lst []) ne1).trans (same_new (o := .tup [.ref b2, .ref e1]) nt1)
    refine ⟨t1, _, rfl, SqT.of upd_same, rfl, _, _, rfl, _, _, rfl, rfl, ?_⟩
    have e17 : (upd (upd H6 e1 (.lst [])) t1 (.tup [.ref b2, .ref e1])) e1 = some (.lst (NL [])) := same_new nt1 _ _ upd_same
    have D7 := D6.same s7
    have W7 := (W4.off (off s5)).off (o6.trans (off s7))
    have o7 := o5.trans (o6.trans (off s7))
    have eb7 := s7 _ _ eb2
    generalize upd (upd H6 e1 (.lst [])) t1 (.tup [.ref b2, .ref e1]) = H7 at e17 D7 W7 o7 eb7 ⊢
    -- both
    refine ⟨_, rfl, a, ps.map V.ref, .L, rfl, SqL.of W7.at_, ?_⟩
    refine for_seq (k := .L) (fun j σ H' => ∃ x6 p5, σ = [some (.ref d), some (nV c), some (.ref a), some (.int (0 + (i : Nat))), some (.ref b2), some (.ref p5), x6, none] ∧ Same H7 H' ∧ H' p5 = some (.lst (NL (ws.take j).flatten)) ∧ (ws.take j).flatten.length ≤ 4 * j)
      ⟨_, e1, rfl, Same.refl _, e17, by simp⟩ (fun j σ H' _ ⟨_, _, _, s, _⟩ => SqL.of (s _ _ W7.at_)) (fun j x σ H8 hx ⟨x6', p5, eσ, s8, e8, l8⟩ => ?_) (fun σ H8 ⟨x6', p5, eσ, s8, e8, l8⟩ => ?_)
    · subst eσ
      rw [List.getElem?_map] at hx
      cases hp : ps[j]? with
      | none => rw [hp] at hx; cases hx
      | some p =>
        rw [hp] at hx
        cases hx
        have hj : j < ws.length := by
          have := (List.getElem?_eq_some_iff.mp hp).1
          have := W7.len
          omega
        have hw : ws[j]? = some ws[j] := by simp [hj]
        obtain ⟨pd, pl, ep⟩ := W7.row j p _ hp hw
        have wl := (t4 ws[j] (List.getElem_mem hj)).len
        have tk : (ws.take (j + 1)).flatten = (ws.take j).flatten ++ ws[j] := by
          rw [List.take_succ, hw, List.flatten_append]
          simp
        have lw : j ≤ 3 := by omega
        refine ⟨_, rfl, _, rfl, p5, p, _, _, rfl, rfl, e8, s8 _ _ ep, ?_, fun z nz => ?_⟩
        · rw [nl_len, nl_len]
          exact Nat.le_trans (by omega : _ ≤ 1000) (by decide)
        · refine ⟨_, z, rfl, s8.trans (same_new nz), ?_, ?_⟩
          · rw [upd_same, tk]
            unfold NL
            rw [List.map_append]
          · rw [tk, List.length_append]
            omega
    · subst eσ
      have lps : (ps.map V.ref).length = ws.length := by rw [List.length_map]; exact W7.len
      rw [lps, List.take_length] at e8 l8
      have D8 := D7.same s8
      have W8 := W7.off (off s8)
      have o8 := o7.trans (off (d := d) (l := l) s8)
      have eb8 := s8 _ _ eb7
      -- the test
      refine ⟨_, rfl, _, rfl, by omega, by omega, ?_⟩
      intro M nM
      rw [Int.toNat_natCast]
      have hbl : w2.length ≤ 4 := tw2.len
      refine lc_sel nM (iw_range (p := 7)) (fun _ => rfl) (by omega) (fun _ _ => trivial) (fun k => decide (5 < (ws.flatten ++ w2).count k)) (fun k => nV k) (fun k H9 hk s9 Qk hq => ?_) (fun k H9 hk s9 hpk Qk hq => ?_) (fun H9 s9 e9 => ?_)
      · refine ⟨_, rfl, _, rfl, p5, b2, _, _, rfl, rfl, s9 _ _ e8, s9 _ _ eb8, ?_, fun z nz => ?_⟩
        · rw [nl_len, nl_len]
          exact Nat.le_trans (by omega : _ ≤ 1000) (by decide)
        · have ec : (upd H9 z (.lst (NL ws.flatten ++ NL w2))) z = some (.lst (((ws.flatten ++ w2).map fun n : Nat => (n : Int)).map V.int)) := by
            rw [upd_same, ← nl_int]
            unfold NL
            rw [List.map_append]
          refine ⟨.inl ⟨rfl, _, SqL.of ec⟩, _, rfl, z, _, (k : Int), rfl, ?_, SqL.of ec, _, 5, rfl, rfl, _, rfl, ?_⟩
          · show [V.int (0 + (k : Nat))] = [V.int (k : Int)]
            rw [Int.zero_add]
          · have hc : ((ws.flatten ++ w2).map fun n : Nat => (n : Int)).count (k : Int) = (ws.flatten ++ w2).count k := count_cast _ k
            rw [hc]
            have hd : decide ((5 : Int) < (((ws.flatten ++ w2).count k : Nat) : Int)) = decide (5 < (ws.flatten ++ w2).count k) := decide_eq_decide.mpr ⟨fun h => by omega, fun h => by omega⟩
            show Qk (decide ((5 : Int) < (((ws.flatten ++ w2).count k : Nat) : Int))) _
            rw [hd]
            exact hq _ (same_new nz)
      · refine ⟨_, rfl, ?_⟩
        have : V.int (0 + (k : Nat)) = nV k := by rw [Int.zero_add]
        rw [this]
        exact hq _ (Same.refl _)
      · refine ⟨Nat.zero_le _, fun z nz => ?_⟩
        have s10 := s9.trans (same_new (o := .lst []) nz)
        have e10 : (upd H9 z (.lst [])) M = some (.lst ((((List.range c).filter fun k => decide (5 < (ws.flatten ++ w2).count k)).map fun n : Nat => (n : Int)).map V.int)) := by
          rw [same_new nz _ _ e9]
          rw [List.map_map]
          rfl
        refine ⟨_, .list [], .lst (SqL.of e10) (dp_ints _), .lst (SqL.of upd_same) .nil, (dok_ints _).shaped (by decide), (dok_ints []).shaped (by decide), _, rfl, ?_⟩
        rw [eqv_empty]
        have D10 := D8.same s10
        have W10 := W8.off (off s10)
        have o10 := o8.trans (off (d := d) (l := l) s10)
        by_cases hf : ((List.range c).filter fun k => decide (5 < (ws.flatten ++ w2).count k)) = []
        · refine if_t (by rw [hf]; rfl) ?_
          refine ⟨_, rfl, .inl ⟨rfl, _, SqL.of W10.at_⟩, _, rfl, a, _, _, rfl, rfl, W10.at_, ?_, ?_⟩
          · rw [lps]
            exact Nat.lt_of_le_of_lt (by omega : ws.length ≤ 1000) (by decide)
          · refine ⟨_, _, _, _, ps ++ [b2], ws ++ [w2], rfl, off_out o10 na0, D10.out ad al, ⟨ad, al, ?_, ?_, fun j p w hp hw => ?_⟩, by simp, by simp; omega, fun w hw => ?_, fun x => ?_⟩
            · rw [upd_same, List.map_append]
              rfl
            · rw [List.length_append, List.length_append, W10.len]
              rfl
            · by_cases hj : j < ps.length
              · rw [List.getElem?_append_left hj] at hp
                rw [List.getElem?_append_left (by rw [← W10.len]; exact hj)] at hw
                obtain ⟨pd, pl, ep⟩ := W10.row j p w hp hw
                refine ⟨pd, pl, ?_⟩
                have ha0 := W10.at_
                by_cases hpa : p = a
                · exfalso
                  subst hpa
                  rw [ha0] at ep
                  injection ep with ep
                  injection ep with ep
                  have hps : ps ≠ [] := fun z => by rw [z] at hj; cases hj
                  have hw0 : w ≠ [] := (t4 w (mem_get hw)).ne
                  cases ps with
                  | nil => exact hps rfl
                  | cons p1 pr =>
                    cases w with
                    | nil => exact hw0 rfl
                    | cons w1 wr => cases ep
                · rw [upd_ne hpa]
                  exact ep
              · rw [List.getElem?_append_right (by omega)] at hp
                rw [List.getElem?_append_right (by rw [← W10.len]; omega), ← W10.len] at hw
                have hj0 : j - ps.length = 0 := by
                  have := (List.getElem?_eq_some_iff.mp hp).1
                  simp at this
                  omega
                rw [hj0] at hp hw
                simp at hp hw
                subst hp hw
                have ab : b2 ≠ a := fun z => by
                  have := (W4.off (off (d := d) (l := l) s5)).at_
                  rw [← z, nb2] at this
                  cases this
                exact ⟨b2d, b2l, by rw [upd_ne ab]; exact s10 _ _ eb8⟩
            · rcases List.mem_append.mp hw with h | h
              · exact t4 w h
              · simp at h
                rw [h]
                exact tw2
            · have fl : (ws ++ [w2]).flatten = ws.flatten ++ w2 := by simp
              rw [fl]
              by_cases hx : x < c
              · rcases Nat.lt_or_ge 5 ((ws.flatten ++ w2).count x) with h | h
                · have : x ∈ ((List.range c).filter fun k => decide (5 < (ws.flatten ++ w2).count k)) := List.mem_filter.mpr ⟨List.mem_range.mpr hx, decide_eq_true h⟩
                  rw [hf] at this
                  cases this
                · exact h
              · have : x ∉ ws.flatten ++ w2 := fun hm => by
                  rcases List.mem_append.mp hm with h | h
                  · obtain ⟨w', hw', hx'⟩ := List.mem_flatten.mp h
                    exact hx ((t4 w' hw').lt x hx')
                  · exact hx (tw2.lt x h)
                rw [List.count_eq_zero_of_not_mem this]
                omega
        · refine if_f (decide_eq_false fun z => hf ?_) ⟨_, _, _, _, ps, ws, rfl, o10, D10, W10, n4, by omega, t4, f4⟩
          exact List.map_eq_nil_iff.mp z
  · subst e
    exact ⟨_, rfl, q a ps ws H4 o4 D4 W4 ⟨c2, c4, n4, by omega, t4, f4⟩⟩
end
end K24
set_option Elab.async false
set_option linter.all false
set_option maxRecDepth 100000
set_option maxHeartbeats 4000000
namespace K24
open PySem PySem.Spec PyProof.Rows L2
/-! ### rows of told words, plain -/
def unitR (c x v : Nat) : List Nat := (List.range c).map fun y => if y = x then v else 0
def rowAt (c : Nat) (us : List Nat) (k : Nat) : List Nat := unitR c (us.getD k 0) ((us.take (k + 1)).count (us.getD k 0))
def rowsU (c : Nat) (us : List Nat) : List (List Nat) := List.replicate c 0 :: (List.range us.length).map (rowAt c us)
def startsFrom : Nat → List (List Nat) → List Nat
  | _, [] => []
  | o, w :: r => ((List.range (w.length - 1)).map fun i => o + i) ++ startsFrom (o + w.length) r
def pairsU (c : Nat) (us : List Nat) (ks : List Nat) : List (List Nat × List Nat) := ks.map fun k => (rowAt c us k, rowAt c us (k + 1))
theorem unitR_len (c x v : Nat) : (unitR c x v).length = c := by unfold unitR; simp
theorem unitR_get {c x v y : Nat} (h : y < c) : (unitR c x v)[y]? = some (if y = x then v else 0) := by
  unfold unitR
  rw [List.getElem?_map, List.getElem?_range h]
  rfl
theorem rowAt_snoc {c k x : Nat} {us : List Nat} (h : k < us.length) : rowAt c (us ++ [x]) k = rowAt c us k := by
  unfold rowAt
  have h1 : (us ++ [x]).getD k 0 = us.getD k 0 := by
    rw [List.getD_eq_getElem?_getD, List.getD_eq_getElem?_getD, List.getElem?_append_left h]
  have h2 : (us ++ [x]).take (k + 1) = us.take (k + 1) := by rw [List.take_append_of_le_length (by omega)]
  rw [h1, h2]
theorem rowAt_last {c x : Nat} {us : List Nat} : rowAt c (us ++ [x]) us.length = unitR c x (us.count x + 1) := by
  unfold rowAt
  have h1 : (us ++ [x]).getD us.length 0 = x := by
    rw [List.getD_eq_getElem?_getD]
    simp
  have h2 : (us ++ [x]).take (us.length + 1) = us ++ [x] := by
    rw [List.take_of_length_le]
    simp
  rw [h1, h2, List.count_append]
  simp
theorem rowsU_snoc {c x : Nat} {us : List Nat} : rowsU c (us ++ [x]) = rowsU c us ++ [unitR c x (us.count x + 1)] := by
  unfold rowsU
  rw [List.length_append]
  simp only [List.length_cons, List.length_nil]
  rw [List.range_succ, List.map_append, ← List.cons_append]
  congr 1
  · congr 1
    exact List.map_congr_left fun k hk => rowAt_snoc (List.mem_range.mp hk)
  · rw [List.map_cons, List.map_nil, rowAt_last]
theorem pairsU_snoc {c x : Nat} {us ks : List Nat} (h : ∀ k ∈ ks, k + 1 < us.length) : pairsU c (us ++ [x]) ks = pairsU c us ks := by
  unfold pairsU
  refine List.map_congr_left fun k hk => ?_
  have := h k hk
  rw [rowAt_snoc (by omega), rowAt_snoc this]
theorem rowsU_len (c : Nat) (us : List Nat) : (rowsU c us).length = us.length + 1 := by unfold rowsU; simp
theorem startsFrom_snoc (o : Nat) (ws : List (List Nat)) (w : List Nat) : startsFrom o (ws ++ [w]) = startsFrom o ws ++ (List.range (w.length - 1)).map fun i => o + ws.flatten.length + i := by
  induction ws generalizing o with
  | nil => simp [startsFrom]
  | cons v r ih =>
    rw [List.cons_append]
    simp only [startsFrom]
    rw [ih, List.append_assoc]
    congr 2
    rw [List.flatten_cons, List.length_append]
    refine List.map_congr_left fun i _ => ?_
    omega
theorem startsFrom_lt (o : Nat) (ws : List (List Nat)) : ∀ k ∈ startsFrom o ws, k + 1 < o + ws.flatten.length := by
  induction ws generalizing o with
  | nil => intro k hk; cases hk
  | cons v r ih =>
    intro k hk
    simp only [startsFrom] at hk
    rw [List.flatten_cons, List.length_append]
    rcases List.mem_append.mp hk with h | h
    · obtain ⟨i, hi, rfl⟩ := List.mem_map.mp h
      rw [List.mem_range] at hi
      omega
    · have := ih (o + v.length) k h
      omega
def idxPairs (c : Nat) (us ks : List Nat) (st : List (List Nat)) : List (List Nat) := (pairsU c us ks).map fun p => [st.idxOf p.1, st.idxOf p.2]
/-- all the states move by a look -/
def mv (ws : List (List Nat)) (st : List Nat) (x : Nat) : List Nat := List.zipWith (fun w p => mv1 w p x) ws st
theorem mv_len {ws : List (List Nat)} {st : List Nat} {x : Nat} (h : st.length = ws.length) : (mv ws st x).length = ws.length := by unfold mv; simp [h]
theorem ints_of {ys : List V} (h : ∀ (i : Nat) (y : V), ys[i]? = some y → ∃ z : Int, y = .int z) : ∃ zs : List Int, ys = zs.map V.int := by
  induction ys with
  | nil => exact ⟨[], rfl⟩
  | cons y r ih =>
    obtain ⟨z, rfl⟩ := h 0 y rfl
    obtain ⟨zs, e⟩ := ih fun i y hy => h (i + 1) y hy
    exact ⟨z :: zs, by rw [e]; rfl⟩
theorem int_getD {zs : List Int} {i : Nat} (h : i < zs.length) : (zs.map V.int).getD i .non = .int zs[i] := get_getD (by rw [List.getElem?_map, List.getElem?_eq_getElem h]; rfl)
section
variable {P : Program} {w : World} {K : PySem.W.Frag} {mg : Str → Option Value}
def sp_law_dealt (K : PySem.W.Frag) : Sp := S2 fun sv bv H Q _ => ∃ (a : Addr) (ns : List Int) (b : Int), sv = .ref a ∧ SqL K H a (ns.map V.int) ∧ bv = .int b ∧ -1000 ≤ b ∧ b ≤ 1000 ∧ ∀ d l H', Same H H' → Deal H' d l → H d = none → H l = none → Q (.ref d) H'
theorem rd_law_dealt {vs : List V} {H : Hp} {Q : VK} {E : XK} (h : sp_law_dealt K vs H Q E) : t_law_dealt P w K (Dn Q) (start N_law_dealt vs) H := by
  obtain ⟨sv, bv, rfl, a, ns, b, rfl, ha, rfl, hb1, hb2, q⟩ := h
  refine ⟨_, rfl, 48, rfl, a, _, rfl, ha, fun p np => ?_⟩
  have s1 := same_new (o := .lst (cutV (ns.map V.int) none (some 48))) np
  have hcl : (cutV (ns.map V.int) none (some 48)).length ≤ 48 := by
    unfold cutV
    rw [List.length_take, HT.sIx_none, show (some (48 : Int)) = some (((48 : Nat)) : Int) from rfl, HT.sIx_nat]
    omega
  have hci : ∀ (i : Nat) (y : V), (cutV (ns.map V.int) none (some 48))[i]? = some y → ∃ z : Int, y = .int z := fun i y hy => by
    have : y ∈ ns.map V.int := by
      have := mem_get hy
      unfold cutV at this
      exact List.drop_subset _ _ (List.take_subset _ _ this)
    obtain ⟨z, _, rfl⟩ := List.mem_map.mp this
    exact ⟨z, rfl⟩
  have e1 : (upd H p (.lst (cutV (ns.map V.int) none (some 48)))) p = some (.lst (cutV (ns.map V.int) none (some 48))) := upd_same
  generalize cutV (ns.map V.int) none (some 48) = cut at s1 hcl hci e1 ⊢
  generalize upd H p (.lst cut) = H1 at s1 e1 ⊢
  obtain ⟨cs, rfl⟩ := ints_of hci
  rw [List.length_map] at hcl
  refine ⟨p, cs.map V.int, .L, rfl, SqL.of e1, ?_⟩
  intro L nL
  refine lc_map nL (iw_seq (k := .L) (p := 4)) (fun _ => rfl) (by rw [List.length_map]; omega) (fun H2 s2 => SqL.of (s2 _ _ e1)) (fun _ _ y => ∃ z : Int, y = .int z) (fun _ _ _ _ _ h => h) (fun i H2 hi s2 Qk hk => ?_) (fun H2 ys s2 e2 l2 r2 => ?_)
  · rw [List.length_map] at hi
    rw [int_getD hi]
    exact ⟨_, rfl, .inl ⟨_, rfl, _, rfl, hk _ _ (Same.refl _) ⟨_, rfl⟩⟩⟩
  obtain ⟨zs, rfl⟩ := ints_of r2
  rw [List.length_map, List.length_map] at l2
  have nL0 := same_none s1 nL
  refine ⟨_, rfl, 157, b, rfl, rfl, .inl (by decide), _, _, rfl, rfl, ?_⟩
  refine ⟨_, rfl, L, zs.map V.int, .L, rfl, SqL.of e2, ?_⟩
  refine for_go (iw_seq (k := .L) (p := 4)) (fun i σ H' => ∃ x4 bl, σ = [some (.ref a), some (.int b), some (.ref L), some (.int bl), x4] ∧ Same H2 H') ⟨_, _, rfl, Same.refl _⟩ (fun i σ H' _ ⟨_, _, _, s⟩ => SqL.of (s _ _ e2)) (fun i σ H3 H4 hi ⟨x4, bl, e, s3⟩ s4 => ?_) (fun σ H3 ⟨x4, bl, e, s3⟩ => ?_)
  · subst e
    rw [List.length_map] at hi
    rw [int_getD hi]
    refine ⟨_, rfl, bl, 48271, rfl, rfl, .inr (by decide), _, rfl, _, 2147483629, rfl, rfl, (by show (0 : Int) < 2147483629; decide), _, _, rfl, rfl, _, 83, rfl, rfl, .inl ⟨_, rfl, _, 2147483647, rfl, rfl, (by show (0 : Int) < 2147483647; decide), ?_⟩⟩
    exact ⟨_, _, rfl, s3.trans s4⟩
  · subst e
    have e3 := s3 _ _ e2
    refine ⟨_, rfl, L, zs.map V.int, .L, rfl, SqL.of e3, ?_⟩
    intro M nM
    refine lc_sel nM (iw_seq (k := .L) (p := 4)) (fun _ => rfl) (by rw [List.length_map]; omega) (fun H4 s4 => SqL.of (s4 _ _ e3)) (fun i => decide ((10 : Int) ^ (18 : Int).toNat ≤ zs.getD i 0)) (fun i => .int (zs.getD i 0)) (fun i H4 hi s4 Qk hk => ?_) (fun i H4 hi s4 hp Qk hk => ?_) (fun H4 s4 e4 => ?_)
    · rw [List.length_map] at hi
      rw [int_getD hi]
      have : zs.getD i 0 = zs[i] := by rw [List.getD_eq_getElem?_getD, List.getElem?_eq_getElem hi]; rfl
      rw [this] at hk
      exact ⟨_, rfl, 10, 18, rfl, rfl, ⟨by decide, by decide, by decide⟩, _, _, rfl, rfl, _, rfl, hk _ (Same.refl _)⟩
    · rw [List.length_map] at hi
      rw [int_getD hi]
      have : zs.getD i 0 = zs[i] := by rw [List.getD_eq_getElem?_getD, List.getElem?_eq_getElem hi]; rfl
      rw [this] at hk
      exact ⟨_, rfl, hk _ (Same.refl _)⟩
    · have hl4 : (((List.range (zs.map V.int).length).filter fun i => decide ((10 : Int) ^ (18 : Int).toNat ≤ zs.getD i 0)).map fun i => (zs.getD i 0)).length ≤ 48 := by
        rw [List.length_map]
        have := List.length_filter_le (fun i => decide ((10 : Int) ^ (18 : Int).toNat ≤ zs.getD i 0)) (List.range (zs.map V.int).length)
        rw [List.length_range, List.length_map] at this
        rw [List.length_map]
        omega
      have em : (((List.range (zs.map V.int).length).filter fun i => decide ((10 : Int) ^ (18 : Int).toNat ≤ zs.getD i 0)).map fun i => V.int (zs.getD i 0)) = (((List.range (zs.map V.int).length).filter fun i => decide ((10 : Int) ^ (18 : Int).toNat ≤ zs.getD i 0)).map fun i => (zs.getD i 0)).map V.int := by
        rw [List.map_map]
        rfl
      rw [em] at e4
      generalize (((List.range (zs.map V.int).length).filter fun i => decide ((10 : Int) ^ (18 : Int).toNat ≤ zs.getD i 0)).map fun i => (zs.getD i 0)) = fs at hl4 e4
      refine ⟨M, _, rfl, SqL.of e4, fun r nr => ?_⟩
      have s5 := same_new (o := .lst (fs.map V.int).reverse) nr
      refine ⟨_, rfl, (by show 2 ≤ sizeLine; decide), fun d nd => ?_⟩
      have s6 := same_new (o := .lst [.ref r, .int bl]) nd
      have st := s1.trans (s2.trans (s3.trans (s4.trans s5)))
      refine q d r _ (st.trans s6) ⟨fs.reverse, bl, upd_same, ?_, by rw [List.length_reverse]; exact hl4⟩ (same_none st nd) (same_none (s1.trans (s2.trans (s3.trans s4))) nr)
      rw [s6 _ _ upd_same, List.map_reverse]
def sp_law_moved : Sp := S3 fun wv sv cv H Q _ => ∃ ws st c, Ls LN H wv ws ∧ TN H sv st ∧ st.length = ws.length ∧ cv = nV c ∧ ws.length ≤ 100 ∧ ∀ u H', Same H H' → TN H' u (mv ws st c) → Q u H'
theorem rd_law_moved {vs : List V} {H : Hp} {Q : VK} {E : XK} (h : sp_law_moved vs H Q E) : t_law_moved P w K (Dn Q) (start N_law_moved vs) H := by
  obtain ⟨wv, sv, cv, rfl, ws, st, c, ⟨a, us, rfl, ha, hp⟩, ⟨b, rfl, hb⟩, hl, rfl, h100, q⟩ := h
  have hul := Paired.len hp
  refine ⟨_, rfl, _, rfl, a, b, us, NL st, .L, .T, rfl, SqL.of ha, SqT.of hb, ?_⟩
  intro L nL
  refine lc_map nL (iw_zip (k := .L) (l := .T) (p := 3) (q := 4) (n := ws.length) (by rw [nl_len]; omega)) (fun _ => rfl) (by omega) (fun H2 s2 => ⟨SqL.of (s2 _ _ ha), SqT.of (s2 _ _ hb)⟩) (fun i _ y => y = nV ((mv ws st c).getD i 0)) (fun _ _ _ _ _ h => h) (fun i H2 hi s2 Qk hk => ?_) (fun H2 ys s2 e2 l2 r2 => ?_)
  · obtain ⟨u, hu⟩ := lt_get (xs := us) (i := i) (by omega)
    obtain ⟨wd, hwd, p, rfl, hp2⟩ := Paired.get' hp hu
    rw [get_getD hu, nl_getD (by omega)]
    have hi2 : i < st.length := by omega
    have em : (mv ws st c).getD i 0 = mv1 wd st[i] c := by
      unfold mv
      rw [List.getD_eq_getElem?_getD, List.getElem?_zipWith, hwd, List.getElem?_eq_getElem hi2]
      rfl
    rw [em] at hk
    have hp3 := s2 _ _ hp2
    have fin : ∀ k : Bool, (k = decide (wd[st[i]]? = some c)) → Qk (.int ((st[i] : Nat) + (if k then 1 else 0))) H2 := fun k hk2 => by
      refine (show Qk (nV (mv1 wd st[i] c)) H2 from hk _ _ (Same.refl _) rfl) |> fun z => ?_
      have : V.int (((st[i] : Nat) : Int) + (if k = true then 1 else 0)) = nV (mv1 wd st[i] c) := by
        unfold mv1
        by_cases hh : wd[st[i]]? = some c
        · rw [hk2, decide_eq_true hh, if_pos rfl, if_pos hh]
          rfl
        · rw [hk2, decide_eq_false hh, if_neg (by decide), if_neg hh, Int.add_zero]
      rw [this]
      exact z
    refine ⟨_, rfl, _, rfl, _, rfl, _, _, rfl, .inl (SqL.of hp3), _, _, rfl, rfl, _, rfl, ?_⟩
    rw [nl_len]
    by_cases hlt : st[i] < wd.length
    · refine if_t (decide_eq_true (by omega)) ⟨_, rfl, _, rfl, p, _, _, nV wd[st[i]], rfl, rfl, SqL.of hp3, atI_nat (nl_get (by simp [hlt])), _, rfl, rfl, .inr ⟨_, rfl, _, _, rfl, rfl, fin _ ?_⟩⟩
      rw [List.getElem?_eq_getElem hlt]
      refine decide_eq_decide.mpr ⟨fun e => congrArg some (Int.ofNat.inj (V.int.inj e)), fun e => by rw [Option.some.inj e]⟩
    · refine if_f (decide_eq_false (by omega)) (.inr ⟨_, rfl, _, _, rfl, rfl, fin false ?_⟩)
      rw [List.getElem?_eq_none (by omega)]
      rfl
  · have ey : ys = NL (mv ws st c) := by
      apply List.ext_getElem
      · rw [nl_len, mv_len hl]
        exact l2
      · intro i h1 h2
        rw [r2 i ys[i] (by simp [h1])]
        have h3 : i < (mv ws st c).length := by rw [mv_len hl]; omega
        have e5 := nl_get (ns := mv ws st c) (i := i) (n := (mv ws st c)[i]) (by simp [h3])
        rw [List.getElem?_eq_getElem h2] at e5
        rw [Option.some.inj e5, List.getD_eq_getElem?_getD, List.getElem?_eq_getElem h3]
        rfl
    rw [ey] at e2
    exact .inl ⟨L, _, rfl, SqL.of e2, fun p np => q _ _ (s2.trans (same_new np)) ⟨p, rfl, upd_same⟩⟩
end
end K24
set_option Elab.async false
set_option linter.all false
set_option maxRecDepth 100000
set_option maxHeartbeats 4000000
namespace K24
open PySem PySem.Spec PyProof.Rows L2
theorem ixN_nat {n j : Nat} (h : j < n) : ixN n (j : Int) = some j := by
  unfold ixN
  rw [if_pos (by omega), if_pos (by omega), Int.toNat_natCast]
theorem rep_flat (n : Nat) (v : V) : (List.replicate n [v]).flatten = List.replicate n v := by
  induction n with
  | zero => rfl
  | succ n ih => rw [List.replicate_succ, List.flatten_cons, ih, List.replicate_succ]; rfl
theorem nl_rep (n v : Nat) : NL (List.replicate n v) = List.replicate n (nV v) := by unfold NL; rw [List.map_replicate]
theorem nl_set (ns : List Nat) (j v : Nat) : (NL ns).set j (nV v) = NL (ns.set j v) := by unfold NL; rw [List.map_set]
theorem set_unit {c x v : Nat} : (List.replicate c 0).set x v = unitR c x v := by
  apply List.ext_getElem?
  intro i
  by_cases h : i < c
  · rw [unitR_get h, List.getElem?_set]
    by_cases z : x = i
    · subst z
      rw [if_pos rfl, if_pos rfl, List.length_replicate, if_pos h]
    · rw [if_neg z, List.getElem?_replicate, if_pos h, if_neg (Ne.symm z)]
  · rw [List.getElem?_eq_none (by simp; omega), List.getElem?_eq_none (by rw [unitR_len]; omega)]
def timesU (c b : Nat) (us : List Nat) : List Nat := (List.range c).map fun y => b + us.count y
theorem timesU_get {c b y : Nat} {us : List Nat} (h : y < c) : (timesU c b us)[y]? = some (b + us.count y) := by
  unfold timesU
  rw [List.getElem?_map, List.getElem?_range h]
  rfl
theorem timesU_len (c b : Nat) (us : List Nat) : (timesU c b us).length = c := by unfold timesU; simp
theorem timesU_set {c b x : Nat} {us : List Nat} (h : x < c) : (timesU c b us).set x (b + us.count x + 1) = timesU c b (us ++ [x]) := by
  apply List.ext_getElem?
  intro i
  by_cases hi : i < c
  · rw [timesU_get hi, List.getElem?_set, List.count_append]
    by_cases z : x = i
    · subst z
      rw [if_pos rfl, timesU_len, if_pos hi]
      simp
      omega
    · rw [if_neg z, timesU_get hi]
      have : List.count i [x] = 0 := by
        rw [List.count_singleton]
        simp [z]
      rw [this]
      rfl
  · rw [List.getElem?_eq_none (by simp [timesU_len]; omega), List.getElem?_eq_none (by rw [timesU_len]; omega)]
theorem timesU_nil (c b : Nat) : timesU c b [] = List.replicate c b := by
  apply List.ext_getElem?
  intro i
  by_cases hi : i < c
  · rw [timesU_get hi, List.getElem?_replicate, if_pos hi]
    rfl
  · rw [List.getElem?_eq_none (by rw [timesU_len]; omega), List.getElem?_eq_none (by simp; omega)]
theorem rowAt_len (c : Nat) (us : List Nat) (k : Nat) : (rowAt c us k).length = c := unitR_len _ _ _
theorem row_lt {c : Nat} {us : List Nat} {r : List Nat} (h : r ∈ rowsU c us) (hb : us.length < 64) : r.length = c ∧ ∀ y ∈ r, y < 64 := by
  unfold rowsU at h
  rcases List.mem_cons.mp h with rfl | h
  · exact ⟨by simp, fun y hy => by rw [(List.mem_replicate.mp hy).2]; omega⟩
  · obtain ⟨k, hk, rfl⟩ := List.mem_map.mp h
    refine ⟨rowAt_len _ _ _, fun y hy => ?_⟩
    unfold rowAt unitR at hy
    obtain ⟨z, _, rfl⟩ := List.mem_map.mp hy
    split
    · have h1 := List.count_le_length (a := us.getD k 0) (l := us.take (k + 1))
      have h2 := List.length_take_le (k + 1) us
      rw [List.length_take] at h1
      omega
    · omega
theorem rowsU_get {c k : Nat} {us : List Nat} (h : k < us.length) : (rowsU c us)[k + 1]? = some (rowAt c us k) := by
  unfold rowsU
  rw [List.getElem?_cons_succ, List.getElem?_map, List.getElem?_range h]
  rfl
theorem told_len {c : Nat} {ws : List (List Nat)} (h : ToldWs c ws) : ws.flatten.length ≤ 12 := by
  have : ∀ l : List (List Nat), (∀ w ∈ l, w.length ≤ 4) → l.flatten.length ≤ 4 * l.length := by
    intro l
    induction l with
    | nil => intro _; simp
    | cons w r ih =>
      intro hl
      have h1 := ih fun v hv => hl v (List.mem_cons_of_mem _ hv)
      have h2 := hl w List.mem_cons_self
      rw [List.flatten_cons, List.length_append, List.length_cons]
      omega
  have h1 := this ws fun w hw => (h.word w hw).len
  have := h.len
  omega
section
variable {P : Program} {w : World} {K : PySem.W.Frag} {mg : Str → Option Value}
/-- index in a list of tuples -/
theorem index_of {H : Hp} {R : Addr} {rvs : List V} {st : List (List Nat)} {x : V} {r : List Nat} {Q : VK} (eR : H R = some (.lst rvs)) (hp : Paired (TN H) rvs st) (hx : TN H x r) (hm : r ∈ st) (q : Q (nV (st.idxOf r)) H) : rIndexD K (.ref R) [x] H Q := by
  have hi : st.idxOf r < st.length := List.idxOf_lt_length_of_mem hm
  have hg : st[st.idxOf r]? = some r := by
    rw [List.getElem?_eq_getElem hi, List.getElem_idxOf]
  refine ⟨R, x, dN r, st.map dN, st.idxOf r, dN r, rfl, rfl, .lst (SqL.of eR) (dp_all (fun _ _ z => dp_N z) hp), dp_N hx, (dok_lst (k := 1) fun y hy => ?_).shaped (by decide), (dok_N _).shaped (by decide), by rw [List.getElem?_map, hg]; rfl, by rw [eqv_N, decide_eq_true rfl], fun m z' hm' hz' => ?_, q⟩
  · obtain ⟨z, _, rfl⟩ := List.mem_map.mp hy
    exact dok_N _
  · rw [List.getElem?_map] at hz'
    cases hs : st[m]? with
    | none => rw [hs] at hz'; cases hz'
    | some s =>
      rw [hs] at hz'
      cases hz'
      rw [eqv_N]
      refine decide_eq_false fun e => ?_
      subst e
      have hml := (List.getElem?_eq_some_iff.mp hs).1
      have := List.not_of_lt_findIdx (p := fun y => y == s) (xs := st) (i := m) hm'
      rw [(List.getElem?_eq_some_iff.mp hs).2] at this
      rw [beq_self_eq_true] at this
      cases this
end
end K24
set_option Elab.async false
set_option linter.all false
set_option maxRecDepth 100000
set_option maxHeartbeats 4000000
namespace K24
open PySem PySem.Spec PyProof.Rows L2
section
variable {P : Program} {w : World} {K : PySem.W.Frag} {mg : Str → Option Value}
theorem kTup_new {H : Hp} {r : Addr} {ns : List Nat} {Q : VK} (h : H r = some (.lst (NL ns))) (q : ∀ t H', Same H H' → H' t = some (.tup (NL ns)) → Q (.ref t) H') : kTup K (.ref r) H Q :=
  .inl ⟨r, _, rfl, SqL.of h, fun p np => q p _ (same_new np) upd_same⟩
theorem startsFrom_len (o : Nat) (ws : List (List Nat)) : (startsFrom o ws).length ≤ ws.flatten.length := by
  induction ws generalizing o with
  | nil => simp [startsFrom]
  | cons v r ih =>
    simp only [startsFrom]
    rw [List.length_append, List.length_map, List.length_range, List.flatten_cons, List.length_append]
    have := ih (o + v.length)
    omega
def hv1 (H : Hp) : V → V
  | .ref t => match H t with
    | some (.tup (a :: _)) => a
    | _ => .non
  | _ => .non
def hv2 (H : Hp) : V → V
  | .ref t => match H t with
    | some (.tup (_ :: b :: _)) => b
    | _ => .non
  | _ => .non
theorem rowAt_mem {c k : Nat} {U : List Nat} (h : k < U.length) : rowAt c U k ∈ rowsU c U := by
  unfold rowsU
  exact List.mem_cons_of_mem _ (List.mem_map.mpr ⟨k, List.mem_range.mpr h, rfl⟩)
def sp_law_built : Sp := S2 fun cv wv H Q _ => ∃ c ws, cv = nV c ∧ Ls LN H wv ws ∧ ToldWs c ws ∧ ∀ a z1 z2 z3 st ch H', Same H H' → H' a = some (.lst [z1, z2, z3]) → TN H' z1 (timesU c 1 ws.flatten) → TTN H' z2 st → TTN H' z3 ch → IsSort (rowsU c ws.flatten) st → IsSort (idxPairs c ws.flatten (startsFrom 0 ws) st) ch → Q (.ref a) H'
theorem rd_law_built {vs : List V} {H : Hp} {Q : VK} {E : XK} (h : sp_law_built vs H Q E) : t_law_built P w K (Dn Q) (start N_law_built vs) H := by
  obtain ⟨cv, wv, rfl, c, ws, rfl, ⟨wa, wvs, rfl, hwa, hwp⟩, T, q⟩ := h
  have c4 := T.c4
  have c2 := T.c2
  have tl := told_len T
  have hwl := Paired.len hwp
  have h3 := T.len
  -- sizes, rows, pairs
  refine ⟨(by show 1 ≤ sizeLine; decide), fun a1 n1 => ⟨_, rfl, a1, (c : Int), _, rfl, rfl, upd_same, by omega, by omega, ?_, fun sz nsz => ?_⟩⟩
  · show 1 * ((c : Int)).toNat ≤ sizeLine
    exact Nat.le_trans (by omega : 1 * ((c : Int)).toNat ≤ 1000) (by decide)
  rw [rep_flat, Int.toNat_natCast]
  have s1 := (same_new (o := .lst [V.int 1]) n1)
  have nsz0 := same_none s1 nsz
  have s2 := s1.trans (same_new (o := .lst (List.replicate c (V.int 1))) nsz)
  have e2 : (upd (upd H a1 (.lst [V.int 1])) sz (.lst (List.replicate c (V.int 1)))) sz = some (.lst (NL (timesU c 1 []))) := by
    rw [upd_same, timesU_nil, nl_rep]
    rfl
  generalize upd (upd H a1 (.lst [V.int 1])) sz (.lst (List.replicate c (V.int 1))) = H2 at s2 e2 ⊢
  refine ⟨(by show 1 ≤ sizeLine; decide), fun a2 n2 => ⟨_, rfl, a2, (c : Int), _, rfl, rfl, upd_same, by omega, by omega, ?_, fun a3 n3 => ?_⟩⟩
  · show 1 * ((c : Int)).toNat ≤ sizeLine
    exact Nat.le_trans (by omega : 1 * ((c : Int)).toNat ≤ 1000) (by decide)
  rw [rep_flat, Int.toNat_natCast]
  have s3 := (same_new (o := .lst [V.int 0]) n2).trans (same_new (o := .lst (List.replicate c (V.int 0))) n3)
  have e3 : (upd (upd H2 a2 (.lst [V.int 0])) a3 (.lst (List.replicate c (V.int 0)))) a3 = some (.lst (NL (List.replicate c 0))) := by
    rw [upd_same, nl_rep]
    rfl
  generalize upd (upd H2 a2 (.lst [V.int 0])) a3 (.lst (List.replicate c (V.int 0))) = H3 at s3 e3 ⊢
  refine kTup_new e3 fun t4 H4 s4 e4 => ?_
  have s34 := s3.trans s4
  refine ⟨(by show 1 ≤ sizeLine; decide), fun rw' nrw => ⟨Nat.zero_le _, fun pr npr => ⟨(by show 3 ≤ sizeLine; decide), fun tp ntp => ?_⟩⟩⟩
  have s5 := same_new (o := .lst [.ref t4]) nrw
  have s6 := same_new (o := .lst []) npr
  have s7 := same_new (o := .tup [.ref sz, .ref rw', .ref pr]) ntp
  refine ⟨tp, _, rfl, SqT.of upd_same, rfl, _, _, rfl, _, _, rfl, _, _, rfl, rfl, ?_⟩
  have nrw0 := same_none (s2.trans s34) nrw
  have npr0 := same_none ((s2.trans s34).trans s5) npr
  have dsr : sz ≠ rw' := ne_of_none (s34 _ _ e2) nrw
  have dsp : sz ≠ pr := ne_of_none (s5 _ _ (s34 _ _ e2)) npr
  have drp : rw' ≠ pr := ne_of_none (upd_same (H := H4) (a := rw') (o := .lst [.ref t4])) npr
  have s8 := s2.trans (s34.trans (s5.trans (s6.trans s7)))
  have z8 := (s5.trans (s6.trans s7)) _ _ (s34 _ _ e2)
  have r8 : (upd (upd (upd H4 rw' (.lst [.ref t4])) pr (.lst [])) tp (.tup [.ref sz, .ref rw', .ref pr])) rw' = some (.lst [.ref t4]) := s7 _ _ (s6 _ _ upd_same)
  have p8 : (upd (upd (upd H4 rw' (.lst [.ref t4])) pr (.lst [])) tp (.tup [.ref sz, .ref rw', .ref pr])) pr = some (.lst []) := s7 _ _ upd_same
  have t8 := (s5.trans (s6.trans s7)) _ _ e4
  generalize upd (upd (upd H4 rw' (.lst [.ref t4])) pr (.lst [])) tp (.tup [.ref sz, .ref rw', .ref pr]) = H8 at s8 z8 r8 p8 t8 ⊢
  let St := fun (us ks : List Nat) (H' : Hp) => Same H H' ∧ H' sz = some (.lst (NL (timesU c 1 us))) ∧ (∃ rvs, H' rw' = some (.lst rvs) ∧ Paired (TN H') rvs (rowsU c us)) ∧ ∃ pvs, H' pr = some (.lst pvs) ∧ Paired (LW H') pvs (pairsU c us ks)
  refine ⟨_, rfl, wa, wvs, .L, rfl, SqL.of (s8 _ _ hwa), ?_⟩
  refine for_seq (k := .L) (fun m σ H' => ∃ x5 x6 x7 x8, σ = [some (nV c), some (.ref wa), some (.ref sz), some (.ref rw'), some (.ref pr), x5, x6, x7, x8, none, none] ∧ St (ws.take m).flatten (startsFrom 0 (ws.take m)) H')
    ⟨_, _, _, _, rfl, s8, z8, ⟨[.ref t4], r8, .cons ⟨t4, rfl, t8⟩ .nil⟩, [], p8, .nil⟩ (fun m σ H' _ ⟨_, _, _, _, _, s, _⟩ => SqL.of (s _ _ hwa)) (fun m x σ H9 hx ⟨x5, x6, x7, x8, e, s9, z9, ⟨rvs, r9, rp9⟩, pvs, p9, pp9⟩ => ?_) (fun σ H9 ⟨x5, x6, x7, x8, e, s9, z9, ⟨rvs, r9, rp9⟩, pvs, p9, pp9⟩ => ?_)
  · subst e
    obtain ⟨wd, hwd, p, rfl, hp0⟩ := Paired.get' hwp hx
    have tw := T.word wd (mem_get hwd)
    have hm : m < ws.length := (List.getElem?_eq_some_iff.mp hwd).1
    generalize hU : (ws.take m).flatten = U at *
    have tkf : (ws.take (m + 1)).flatten = U ++ wd := by
      rw [List.take_succ, hwd, List.flatten_append, hU]
      simp
    have tks : startsFrom 0 (ws.take (m + 1)) = startsFrom 0 (ws.take m) ++ (List.range (wd.length - 1)).map fun i => U.length + i := by
      rw [List.take_succ, hwd]
      show startsFrom 0 (ws.take m ++ [wd]) = _
      rw [startsFrom_snoc, hU]
      simp
    have hUl : U.length + wd.length ≤ 12 := by
      have h1 : (ws.take (m + 1)).flatten.length ≤ ws.flatten.length := by
        conv => rhs; rw [← List.take_append_drop (m + 1) ws]
        rw [List.flatten_append, List.length_append]
        omega
      rw [tkf, List.length_append] at h1
      omega
    have klt := startsFrom_lt 0 (ws.take m)
    have kln := startsFrom_len 0 (ws.take m)
    rw [hU] at klt kln
    generalize startsFrom 0 (ws.take m) = ks at *
    refine ⟨_, rfl, p, NL wd, .L, rfl, SqL.of (s9 _ _ hp0), ?_⟩
    refine for_seq (k := .L) (fun i σ H' => ∃ x6 x7 x8, σ = [some (nV c), some (.ref wa), some (.ref sz), some (.ref rw'), some (.ref pr), some (.ref p), some x6, x7, x8, none, none] ∧ St (U ++ wd.take i) (ks ++ (List.range (i - 1)).map fun j => U.length + j) H' ∧ (i = 0 → x6 = .non) ∧ (1 ≤ i → TN H' x6 (rowAt c (U ++ wd.take i) (U.length + i - 1))))
      ⟨_, _, _, rfl, ⟨s9, by simpa using z9, ⟨rvs, r9, by simpa using rp9⟩, pvs, p9, by simpa using pp9⟩, fun _ => rfl, fun h => by omega⟩ (fun i σ H' _ ⟨_, _, _, _, ⟨s, _⟩, _⟩ => SqL.of (s _ _ hp0)) (fun i x σ H10 hx ⟨x6', x7', x8', e, ⟨s10, z10, ⟨rvs', r10, rp10⟩, pvs', p10, pp10⟩, i0, i1⟩ => ?_) (fun σ H10 ⟨x6', x7', x8', e, ⟨s10, z10, ⟨rvs', r10, rp10⟩, pvs', p10, pp10⟩, i0, i1⟩ => ?_)
    · subst e
      have hi : i < wd.length := by
        have := (List.getElem?_eq_some_iff.mp hx).1
        rwa [nl_len] at this
      have ex : x = nV wd[i] := by
        rw [nl_get (n := wd[i]) (by simp [hi])] at hx
        exact (Option.some.inj hx).symm
      subst ex
      have hxc := tw.lt wd[i] (List.getElem_mem hi)
      have tk1 : U ++ wd.take (i + 1) = (U ++ wd.take i) ++ [wd[i]] := by
        rw [List.take_succ, List.getElem?_eq_getElem hi, List.append_assoc]
        rfl
      have hVl : (U ++ wd.take i).length = U.length + i := by rw [List.length_append, List.length_take]; omega
      generalize U ++ wd.take i = Vs at *
      generalize wd[i] = y at *
      -- row
      refine ⟨(by show 1 ≤ sizeLine; decide), fun b1 nb1 => ⟨_, rfl, b1, (c : Int), _, rfl, rfl, upd_same, by omega, by omega, ?_, fun ro nro => ?_⟩⟩
      · show 1 * ((c : Int)).toNat ≤ sizeLine
        exact Nat.le_trans (by omega : 1 * ((c : Int)).toNat ≤ 1000) (by decide)
      rw [rep_flat, Int.toNat_natCast]
      have s11 := (same_new (o := .lst [V.int 0]) nb1).trans (same_new (o := .lst (List.replicate c (V.int 0))) nro)
      have nro0 := same_none (same_new (o := .lst [V.int 0]) nb1) nro
      have e11 : (upd (upd H10 b1 (.lst [V.int 0])) ro (.lst (List.replicate c (V.int 0)))) ro = some (.lst (NL (List.replicate c 0))) := by
        rw [upd_same, nl_rep]
        rfl
      generalize upd (upd H10 b1 (.lst [V.int 0])) ro (.lst (List.replicate c (V.int 0))) = H11 at s11 e11 ⊢
      have rsz : ro ≠ sz := fun z => by rw [z, z10] at nro0; cases nro0
      have rrw : ro ≠ rw' := fun z => by rw [z, r10] at nro0; cases nro0
      have rpr : ro ≠ pr := fun z => by rw [z, p10] at nro0; cases nro0
      have rH : H ro = none := same_none s10 nro0
      have hgz : (NL (timesU c 1 Vs))[y]? = some (nV (1 + Vs.count y)) := nl_get (timesU_get hxc)
      -- row[cell] = sizes[cell]
      refine ⟨_, rfl, _, rfl, sz, _, _, _, rfl, rfl, SqL.of (s11 _ _ z10), atI_nat hgz, ?_⟩
      refine ⟨_, rfl, _, rfl, ro, _, (y : Int), y, rfl, rfl, e11, ixN_nat (by rw [nl_len, List.length_replicate]; exact hxc), ?_⟩
      rw [nl_set, set_unit]
      have e12 : (upd H11 ro (.lst (NL (unitR c y (1 + Vs.count y))))) ro = some (.lst (NL (unitR c y (Vs.count y + 1)))) := by rw [upd_same, Nat.add_comm]
      have s12 : Same H10 (upd H11 ro (.lst (NL (unitR c y (1 + Vs.count y))))) := same_out s11 nro0
      generalize upd H11 ro (.lst (NL (unitR c y (1 + Vs.count y)))) = H12 at e12 s12 ⊢
      -- sizes[cell] = sizes[cell] + 1
      refine ⟨_, rfl, _, rfl, sz, _, _, _, rfl, rfl, SqL.of (s12 _ _ z10), atI_nat hgz, _, 1, rfl, rfl, ?_⟩
      refine ⟨_, rfl, _, rfl, sz, _, (y : Int), y, rfl, rfl, s12 _ _ z10, ixN_nat (by rw [nl_len, timesU_len]; exact hxc), ?_⟩
      have hset : (NL (timesU c 1 Vs)).set y (V.int ((((1 + Vs.count y : Nat)) : Int) + 1)) = NL (timesU c 1 (Vs ++ [y])) := by
        rw [← timesU_set hxc, ← nl_set]
        rfl
      show tSeq _ _ _ _ (upd H12 sz (.lst ((NL (timesU c 1 Vs)).set y (V.int ((((1 + Vs.count y : Nat)) : Int) + 1)))))
      rw [hset]
      have sl13 := smi_lst (u := .lst (NL (timesU c 1 (Vs ++ [y])))) (s12 _ _ z10)
      have z13 : (upd H12 sz (.lst (NL (timesU c 1 (Vs ++ [y]))))) sz = some (.lst (NL (timesU c 1 (Vs ++ [y])))) := upd_same
      have r13 : (upd H12 sz (.lst (NL (timesU c 1 (Vs ++ [y]))))) rw' = some (.lst rvs') := by rw [upd_ne (Ne.symm dsr)]; exact s12 _ _ r10
      have p13 : (upd H12 sz (.lst (NL (timesU c 1 (Vs ++ [y]))))) pr = some (.lst pvs') := by rw [upd_ne (Ne.symm dsp)]; exact s12 _ _ p10
      have o13 : (upd H12 sz (.lst (NL (timesU c 1 (Vs ++ [y]))))) ro = some (.lst (NL (unitR c y (Vs.count y + 1)))) := by rw [upd_ne rsz]; exact e12
      have s13 : Same H (upd H12 sz (.lst (NL (timesU c 1 (Vs ++ [y]))))) := same_out (s10.trans s12) nsz0
      have i13 := (smi s12).trans sl13
      generalize upd H12 sz (.lst (NL (timesU c 1 (Vs ++ [y])))) = H13 at z13 r13 p13 o13 s13 i13 ⊢
      -- rows.append(tuple(row))
      refine ⟨_, rfl, .inl ⟨rfl, _, SqL.of r13⟩, _, rfl, kTup_new o13 fun t14 H14 s14 e14 => ?_⟩
      have rl := Paired.len rp10
      rw [rowsU_len, hVl] at rl
      refine ⟨rw', rvs', _, rfl, rfl, s14 _ _ r13, Nat.lt_of_le_of_lt (by omega : rvs'.length ≤ 1000) (by decide), ?_⟩
      have sl15 := smi_lst (u := .lst (rvs' ++ [.ref t14])) (s14 _ _ r13)
      have i15 := i13.trans ((smi s14).trans sl15)
      have s15 : Same H (upd H14 rw' (.lst (rvs' ++ [.ref t14]))) := same_out (s13.trans s14) nrw0
      have z15 : (upd H14 rw' (.lst (rvs' ++ [.ref t14]))) sz = some (.lst (NL (timesU c 1 (Vs ++ [y])))) := by rw [upd_ne dsr]; exact s14 _ _ z13
      have r15 : (upd H14 rw' (.lst (rvs' ++ [.ref t14]))) rw' = some (.lst (rvs' ++ [.ref t14])) := upd_same
      have p15 : (upd H14 rw' (.lst (rvs' ++ [.ref t14]))) pr = some (.lst pvs') := by rw [upd_ne (Ne.symm drp)]; exact s14 _ _ p13
      have o15 : (upd H14 rw' (.lst (rvs' ++ [.ref t14]))) ro = some (.lst (NL (unitR c y (Vs.count y + 1)))) := by rw [upd_ne rrw]; exact s14 _ _ o13
      have rp15 : Paired (TN (upd H14 rw' (.lst (rvs' ++ [.ref t14])))) (rvs' ++ [.ref t14]) (rowsU c (Vs ++ [y])) := by
        rw [rowsU_snoc]
        exact Paired.snoc (L2.Paired.mapP rp10 fun _ _ z => ImmR.mono i15 z) ⟨t14, rfl, sl15 _ _ trivial e14⟩
      generalize upd H14 rw' (.lst (rvs' ++ [.ref t14])) = H15 at i15 s15 z15 r15 p15 o15 rp15 ⊢
      have kl : ∀ k ∈ ks ++ (List.range (i - 1)).map fun j => U.length + j, k + 1 < Vs.length := fun k hk => by
        rw [hVl]
        rcases List.mem_append.mp hk with h | h
        · have := klt k h
          omega
        · obtain ⟨j, hj, rfl⟩ := List.mem_map.mp h
          rw [List.mem_range] at hj
          omega
      have lastR : rowAt c (Vs ++ [y]) (U.length + (i + 1) - 1) = unitR c y (Vs.count y + 1) := by
        rw [show U.length + (i + 1) - 1 = Vs.length by omega, rowAt_last]
      -- the end of the turn
      have fin : ∀ (x8 : V) H16 pvs2, Same H H16 → H16 sz = some (.lst (NL (timesU c 1 (Vs ++ [y])))) → H16 rw' = some (.lst (rvs' ++ [.ref t14])) → Paired (TN H16) (rvs' ++ [.ref t14]) (rowsU c (Vs ++ [y])) → H16 pr = some (.lst pvs2) → Paired (LW H16) pvs2 (pairsU c (Vs ++ [y]) (ks ++ (List.range (i + 1 - 1)).map fun j => U.length + j)) → H16 ro = some (.lst (NL (unitR c y (Vs.count y + 1)))) →
          ∀ (D : Ends), (D.nx = fun σ H' => (∃ x6 x7 x8, σ = [some (nV c), some (.ref wa), some (.ref sz), some (.ref rw'), some (.ref pr), some (.ref p), some x6, x7, x8, none, none] ∧ St (U ++ wd.take (i + 1)) (ks ++ (List.range (i + 1 - 1)).map fun j => U.length + j) H' ∧ (i + 1 = 0 → x6 = .non) ∧ (1 ≤ i + 1 → TN H' x6 (rowAt c (U ++ wd.take (i + 1)) (U.length + (i + 1) - 1))))) →
          tAsg (tThen (tVar 8) (kTup K)) (gName 6) D [some (nV c), some (.ref wa), some (.ref sz), some (.ref rw'), some (.ref pr), some (.ref p), some x6', some (nV y), some (.ref ro), none, none] H16 := by
        intro x8 H16 pvs2 s16 z16 r16 rp16 p16 pp16 o16 D hD
        refine ⟨_, rfl, kTup_new o16 fun t17 H17 s17 e17 => ?_⟩
        show D.nx _ _
        rw [hD]
        refine ⟨.ref t17, _, _, rfl, ⟨s16.trans s17, ?_, ⟨_, s17 _ _ r16, ?_⟩, pvs2, s17 _ _ p16, ?_⟩, fun h => by omega, fun _ => ?_⟩
        · rw [tk1]; exact s17 _ _ z16
        · rw [tk1]; exact L2.Paired.mapP rp16 fun _ _ z => SamR.mono s17 z
        · rw [tk1]; exact L2.Paired.mapP pp16 fun _ _ z => SamR.mono s17 z
        · rw [tk1, lastR]
          exact ⟨t17, rfl, e17⟩
      -- if last is not None
      refine ⟨_, rfl, rfl, _, rfl, ?_⟩
      rcases Nat.eq_zero_or_pos i with hi0 | hi0
      · rw [i0 hi0]
        refine if_f (by simp) ?_
        refine fin .non H15 pvs' s15 z15 r15 rp15 p15 ?_ o15 _ rfl
        rw [pairsU_snoc (by
          intro k hk
          refine kl k ?_
          rw [hi0] at hk ⊢
          simpa using hk)]
        rw [hi0] at pp10 ⊢
        exact L2.Paired.mapP (by simpa using pp10) fun _ _ z => ImmR.mono i15 z
      · have hl6 := i1 hi0
        obtain ⟨t6, rfl, ht6⟩ := id hl6
        refine if_t (by simp) ?_
        refine ⟨_, rfl, .inl ⟨rfl, _, SqL.of p15⟩, _, rfl, _, rfl, kTup_new o15 fun t16 H16 s16 e16 => ⟨(by show 2 ≤ sizeLine; decide), fun t17 nt17 => ?_⟩⟩
        have s17 := s16.trans (same_new (o := .tup [.ref t6, .ref t16]) nt17)
        have pl := Paired.len pp10
        have pl2 : (pairsU c Vs (ks ++ (List.range (i - 1)).map fun j => U.length + j)).length ≤ 1000 := by
          unfold pairsU
          rw [List.length_map, List.length_append, List.length_map, List.length_range]
          omega
        refine ⟨pr, pvs', _, rfl, rfl, s17 _ _ p15, Nat.lt_of_le_of_lt (by omega : pvs'.length ≤ 1000) (by decide), ?_⟩
        have sl18 := smi_lst (u := .lst (pvs' ++ [.ref t17])) (s17 _ _ p15)
        refine fin .non _ (pvs' ++ [.ref t17]) (same_out (s15.trans s17) npr0) ?_ ?_ ?_ upd_same ?_ ?_ _ ?_
        · rw [upd_ne dsp]; exact s17 _ _ z15
        · rw [upd_ne drp]; exact s17 _ _ r15
        · exact L2.Paired.mapP rp15 fun _ _ z => ImmR.mono ((smi s17).trans sl18) z
        · have ek : ks ++ (List.range (i + 1 - 1)).map (fun j => U.length + j) = (ks ++ (List.range (i - 1)).map fun j => U.length + j) ++ [U.length + (i - 1)] := by
            rw [show i + 1 - 1 = (i - 1) + 1 by omega, List.range_succ, List.map_append, List.append_assoc]
            rfl
          rw [ek]
          have ep : pairsU c (Vs ++ [y]) ((ks ++ (List.range (i - 1)).map fun j => U.length + j) ++ [U.length + (i - 1)]) = pairsU c Vs (ks ++ (List.range (i - 1)).map fun j => U.length + j) ++ [(rowAt c Vs (U.length + i - 1), unitR c y (Vs.count y + 1))] := by
            rw [← pairsU_snoc (x := y) kl]
            unfold pairsU
            rw [List.map_append]
            congr 1
            rw [List.map_cons, List.map_nil, show U.length + (i - 1) + 1 = Vs.length by omega, rowAt_last, show U.length + (i - 1) = U.length + i - 1 by omega, rowAt_snoc (by omega)]
          rw [ep]
          have i18 := i15.trans ((smi s17).trans sl18)
          refine Paired.snoc (L2.Paired.mapP pp10 fun _ _ z => ImmR.mono i18 z) ⟨t17, .ref t6, .ref t16, rfl, sl18 _ _ trivial upd_same, ?_, ?_⟩
          · exact ImmR.mono i18 ⟨t6, rfl, ht6⟩
          · exact ⟨t16, rfl, sl18 _ _ trivial ((same_new nt17) _ _ e16)⟩
        · rw [upd_ne rpr]; exact s17 _ _ o15
        · rfl
    · subst e
      rw [nl_len, List.take_length] at z10 rp10 pp10
      refine ⟨_, _, _, _, rfl, s10, ?_, ⟨rvs', r10, ?_⟩, pvs', p10, ?_⟩
      · rw [tkf]; exact z10
      · rw [tkf]; exact rp10
      · rw [tkf, tks]; exact pp10
  · subst e
    have hwl2 := Paired.len hwp
    rw [show wvs.length = ws.length from hwl2, List.take_length] at z9 rp9 pp9
    generalize hU : ws.flatten = U at *
    have kln := startsFrom_len 0 ws
    have klt := startsFrom_lt 0 ws
    rw [hU] at kln klt
    generalize startsFrom 0 ws = ks at *
    have nr := Paired.len rp9
    have np := Paired.len pp9
    rw [rowsU_len] at nr
    have np2 : pvs.length = ks.length := by rw [np]; unfold pairsU; rw [List.length_map]
    -- rows = sorted(rows)
    refine ⟨_, rfl, c, 64, by omega, rw', rvs, rfl, SqL.of r9, by omega, fun x hx => ?_, fun zs R perm pw nR => ?_⟩
    · obtain ⟨ns, h1, h2⟩ := paired_tn rp9 x hx
      obtain ⟨h3, h4⟩ := row_lt h1 (by omega)
      exact ⟨toI ns, tupI h2, by unfold toI; rw [List.length_map]; exact h3, bd_toI h4⟩
    obtain ⟨st, hst, iss⟩ := sort_data rp9 perm pw
    have sR := same_new (o := .lst zs) nR
    have z10 := sR _ _ z9
    have p10 := sR _ _ p9
    have R10 : (upd H9 R (.lst zs)) R = some (.lst zs) := upd_same
    have st10 : Paired (TN (upd H9 R (.lst zs))) zs st := L2.Paired.mapP hst fun _ _ z => SamR.mono sR z
    have pp10 : Paired (LW (upd H9 R (.lst zs))) pvs (pairsU c U ks) := L2.Paired.mapP pp9 fun _ _ z => SamR.mono sR z
    have s10 := s9.trans sR
    generalize upd H9 R (.lst zs) = H10 at z10 p10 R10 st10 pp10 s10 ⊢
    -- tuple(sizes)
    refine ⟨_, rfl, kTup_new z10 fun t1 H11 s11 e11 => ?_⟩
    -- tuple(rows)
    refine ⟨_, rfl, .inl ⟨R, zs, rfl, SqL.of (s11 _ _ R10), fun t2 n2 => ?_⟩⟩
    have s12 := s11.trans (same_new (o := .tup zs) n2)
    have e12 : TTN (upd H11 t2 (.tup zs)) (.ref t2) st := ⟨t2, zs, rfl, upd_same, L2.Paired.mapP st10 fun _ _ z => SamR.mono s12 z⟩
    have f12 := (same_new (o := .tup zs) n2) _ _ e11
    have p12 := s12 _ _ p10
    have R12 := s12 _ _ R10
    have st12 : Paired (TN (upd H11 t2 (.tup zs))) zs st := L2.Paired.mapP st10 fun _ _ z => SamR.mono s12 z
    have pp12 : Paired (LW (upd H11 t2 (.tup zs))) pvs (pairsU c U ks) := L2.Paired.mapP pp10 fun _ _ z => SamR.mono s12 z
    have s12' := s10.trans s12
    generalize upd H11 t2 (.tup zs) = H12 at e12 f12 p12 R12 st12 pp12 s12' ⊢
    -- the changes
    refine ⟨_, rfl, pr, pvs, .L, rfl, SqL.of p12, ?_⟩
    intro D nD
    have iw : Iw (ItS K pr .L) (gTup K 2 (gCons (gName 9) (gCons (gName 10) gNil))) pvs.length (fun i σ => (σ.set 9 (some (hv1 H12 (pvs.getD i .non)))).set 10 (some (hv2 H12 (pvs.getD i .non)))) (fun H' => Same H12 H') := by
      refine ⟨fun i H' hi s => ⟨pvs, pvs[i], SqL.of (s _ _ p12), by simp [hi]⟩, fun H' s => ⟨pvs, SqL.of (s _ _ p12), Nat.le_refl _⟩, fun i σ H' z H'' hi s y k hk => ?_⟩
      obtain ⟨e1, y⟩ := y
      subst e1
      have hy := y pvs (SqL.of (s _ _ p12))
      obtain ⟨pq, hpq, t, a, b, rfl, ht, ha, hb⟩ := Paired.get' pp12 hy
      rw [get_getD hy] at hk
      unfold hv1 hv2 at hk
      simp only [ht] at hk
      exact ⟨t, [a, b], rfl, SqT.of (s _ _ ht), rfl, _, _, rfl, _, _, rfl, rfl, hk _ (Same.refl _)⟩
    refine lc_map nD iw (fun _ => rfl) (by omega) (fun H2 s2 => s2) (fun i H y => TN H y ((idxPairs c U ks st).getD i [])) (fun _ _ _ _ s h => ImmR.mono s h) (fun i H13 hi s13 Qk hk => ?_) (fun H13 ys s13 e13 l13 r13 => ?_)
    · obtain ⟨u, hu⟩ := lt_get hi
      obtain ⟨pq, hpq, t, a, b, rfl, ht, ha, hb⟩ := Paired.get' pp12 hu
      obtain ⟨k, hk2⟩ := lt_get (xs := ks) (i := i) (by omega)
      have ep : pq = (rowAt c U k, rowAt c U (k + 1)) := by
        unfold pairsU at hpq
        rw [List.getElem?_map, hk2] at hpq
        exact (Option.some.inj hpq).symm
      subst ep
      have kb := klt k (mem_get hk2)
      have m1 : rowAt c U k ∈ st := iss.perm.mem_iff.mpr (rowAt_mem (by omega))
      have m2 : rowAt c U (k + 1) ∈ st := iss.perm.mem_iff.mpr (rowAt_mem (by omega))
      have eg : (idxPairs c U ks st).getD i [] = [st.idxOf (rowAt c U k), st.idxOf (rowAt c U (k + 1))] := by
        unfold idxPairs
        rw [List.getD_eq_getElem?_getD, List.getElem?_map, hpq]
        rfl
      rw [eg] at hk
      rw [get_getD hu]
      unfold hv1 hv2
      simp only [ht]
      have R13 := s13 _ _ R12
      have st13 : Paired (TN H13) zs st := L2.Paired.mapP st12 fun _ _ z => SamR.mono s13 z
      refine ⟨_, rfl, .inl ⟨rfl, _, SqL.of R13⟩, _, rfl, ?_⟩
      dsimp only [tNil]
      refine index_of R13 st13 (SamR.mono s13 ha) m1 ?_
      refine ⟨_, rfl, .inl ⟨rfl, _, SqL.of R13⟩, _, rfl, ?_⟩
      dsimp only [tNil]
      refine index_of R13 st13 (SamR.mono s13 hb) m2 ?_
      refine ⟨(by show 2 ≤ sizeLine; decide), fun t14 n14 => hk _ _ (same_new n14) ⟨t14, rfl, upd_same⟩⟩
    · have li : (idxPairs c U ks st).length = pvs.length := by unfold idxPairs; rw [List.length_map]; exact np.symm
      have pr13 : Paired (TN H13) ys (idxPairs c U ks st) := Paired.of_get (by omega) fun i x y hx hy => by
        have := r13 i x hx
        rwa [show (idxPairs c U ks st).getD i [] = y by rw [List.getD_eq_getElem?_getD, hy]; rfl] at this
      refine ⟨2, 64, by omega, D, ys, rfl, SqL.of e13, by omega, fun x hx => ?_, fun zs2 R2 perm2 pw2 nR2 => ?_⟩
      · obtain ⟨ns, h1, h2⟩ := paired_tn pr13 x hx
        obtain ⟨pq, hpq, rfl⟩ := List.mem_map.mp h1
        refine ⟨toI _, tupI h2, rfl, bd_toI fun y hy => ?_⟩
        have hsl : st.length ≤ 13 := by rw [iss.perm.length_eq, rowsU_len]; omega
        have i1 := List.idxOf_le_length (a := pq.1) (l := st)
        have i2 := List.idxOf_le_length (a := pq.2) (l := st)
        simp at hy
        omega
      · obtain ⟨ch, hch, iss2⟩ := sort_data pr13 perm2 pw2
        have s14 := same_new (o := .lst zs2) nR2
        refine .inl ⟨R2, zs2, rfl, SqL.of upd_same, fun t3 n3 => ?_⟩
        have s15 := s14.trans (same_new (o := .tup zs2) n3)
        refine ⟨(by show 3 ≤ sizeLine; decide), fun a na => ?_⟩
        have s16 := s15.trans (same_new (o := .lst [.ref t1, .ref t2, .ref t3]) na)
        have s17 := s13.trans s16
        refine q a _ _ _ st ch _ (s12'.trans s17) upd_same ⟨t1, rfl, s17 _ _ f12⟩ (SamR.mono s17 e12) ⟨t3, zs2, rfl, (same_new na) _ _ upd_same, L2.Paired.mapP hch fun _ _ z => SamR.mono s16 z⟩ iss iss2
end
end K24
set_option Elab.async false
set_option linter.all false
set_option maxRecDepth 100000
set_option maxHeartbeats 4000000
namespace K24
open PySem PySem.Spec PyProof.Rows L2
/-! ### the law's table: plain part -/
def whole (ws : List (List Nat)) : List Nat := ws.map List.length
def finW (ws : List (List Nat)) : List Nat → Bool := fun t => decide (t = whole ws)
def st0 (ws : List (List Nat)) : List Nat := List.replicate ws.length 0
def Bnd : List (List Nat) → List Nat → Prop
  | [], [] => True
  | w :: r, x :: s => x ≤ w.length ∧ Bnd r s
  | _, _ => False
theorem Bnd.len : ∀ {ws : List (List Nat)} {st : List Nat}, Bnd ws st → st.length = ws.length
  | [], [], _ => rfl
  | _ :: _, _ :: _, h => congrArg (· + 1) (Bnd.len h.2)
theorem mv_cons (w : List Nat) (r : List (List Nat)) (p : Nat) (s : List Nat) (x : Nat) : mv (w :: r) (p :: s) x = mv1 w p x :: mv r s x := rfl
theorem mv1_le {w : List Nat} {p x : Nat} (h : p ≤ w.length) : mv1 w p x ≤ w.length := by
  unfold mv1
  split
  · rename_i e
    have := (List.getElem?_eq_some_iff.mp e).1
    omega
  · exact h
theorem Bnd.mv : ∀ {ws : List (List Nat)} {st : List Nat} {x : Nat}, Bnd ws st → Bnd ws (mv ws st x)
  | [], [], _, _ => trivial
  | _ :: _, _ :: _, _, h => ⟨mv1_le h.1, Bnd.mv h.2⟩
theorem bnd_st0 : ∀ ws : List (List Nat), Bnd ws (st0 ws)
  | [] => trivial
  | w :: r => ⟨Nat.zero_le _, bnd_st0 r⟩
theorem bnd_run {ws : List (List Nat)} : ∀ (u : List Nat) {st : List Nat}, Bnd ws st → Bnd ws (Mt.run (mv ws) st u)
  | [], _, h => h
  | _ :: r, _, h => bnd_run r h.mv
def allSt : List (List Nat) → List (List Nat)
  | [] => [[]]
  | w :: r => (List.range (w.length + 1)).flatMap fun x => (allSt r).map (x :: ·)
theorem mem_allSt : ∀ {ws : List (List Nat)} {st : List Nat}, Bnd ws st → st ∈ allSt ws
  | [], [], _ => by simp [allSt]
  | w :: r, x :: s, h => by
    simp only [allSt, List.mem_flatMap]
    exact ⟨x, List.mem_range.mpr (by have := h.1; omega), List.mem_map.mpr ⟨s, mem_allSt h.2, rfl⟩⟩
theorem allSt_len : ∀ {ws : List (List Nat)}, (∀ w ∈ ws, w.length ≤ 4) → (allSt ws).length ≤ 5 ^ ws.length
  | [], _ => by simp [allSt]
  | w :: r, h => by
    have ih := allSt_len (ws := r) fun v hv => h v (List.mem_cons_of_mem _ hv)
    simp only [allSt]
    rw [List.length_flatMap]
    have h1 := Mt.sum_le_of (fun x => ((allSt r).map (x :: ·)).length) (5 ^ r.length) (List.range (w.length + 1)) fun x _ => by
      rw [List.length_map]
      exact ih
    rw [List.length_range] at h1
    refine Nat.le_trans h1 ?_
    rw [List.length_cons, Nat.pow_succ, Nat.mul_comm]
    exact Nat.mul_le_mul_left _ (by have := h w (by simp); omega)
theorem lex_dec : ∀ a b : List Nat, HT.lexLt (toI a) (toI b) = decide (a < b)
  | [], [] => by rw [decide_eq_false (List.lt_irrefl _)]; rfl
  | [], y :: b => by rw [decide_eq_true (List.nil_lt_cons _ _)]; rfl
  | x :: a, [] => by rw [decide_eq_false (List.not_lt_nil _)]; rfl
  | x :: a, y :: b => by
    have e : HT.lexLt (toI (x :: a)) (toI (y :: b)) = if (x : Int) = y then HT.lexLt (toI a) (toI b) else decide ((x : Int) < y) := rfl
    rw [e, lex_dec a b]
    by_cases h : x = y
    · subst h
      rw [if_pos rfl]
      refine decide_eq_decide.mpr ?_
      rw [List.cons_lt_cons_iff]
      simp
    · rw [if_neg (by omega)]
      refine decide_eq_decide.mpr ?_
      rw [List.cons_lt_cons_iff]
      constructor
      · intro h2
        exact .inl (by omega)
      · rintro (h2 | h2)
        · omega
        · exact absurd h2.1 h
abbrev TbL := Mt.Tb (List Nat)
def updT (L : TbL) (s : List Nat) (c : Nat) (w : List Nat) : TbL := L.map fun e => if e.1 = s then (e.1, (e.2.1 + c, Mt.minW e.2.2 w)) else e
theorem updT_keys (L : TbL) (s : List Nat) (c : Nat) (w : List Nat) : (updT L s c w).map (·.1) = L.map (·.1) := by
  unfold updT
  rw [List.map_map]
  refine List.map_congr_left fun e _ => ?_
  show (if e.1 = s then _ else e).1 = e.1
  split <;> rfl
theorem minW_self (w : List Nat) : Mt.minW w w = w := by unfold Mt.minW; split <;> rfl
theorem addT_old' {L : TbL} {s : List Nat} {c : Nat} {w : List Nat} (h : s ∈ L.map (·.1)) : Mt.addT L s c w = updT L s c w := by
  unfold Mt.addT
  rw [if_pos (Mt.key_mem.mpr h)]
  rfl
theorem addT_new' {L : TbL} {s : List Nat} {c : Nat} {w : List Nat} (h : s ∉ L.map (·.1)) : Mt.addT L s c w = updT (L ++ [(s, (0, w))]) s c w := by
  unfold Mt.addT
  rw [if_neg fun z => h (Mt.key_mem.mp z)]
  unfold updT
  rw [List.map_append]
  congr 1
  · rw [List.map_congr_left (g := id), List.map_id]
    intro e he
    rw [if_neg fun z => h (List.mem_map.mpr ⟨e, he, z⟩)]
    rfl
  · simp [minW_self]
/-! ### the law's table in the heap -/
def kvsA (ad : List Nat → Addr) (ks : List (List Nat)) : List (List Key × V) := ks.map fun k => (kN k, V.ref (ad k))
theorem kvsA_len (ad : List Nat → Addr) (ks : List (List Nat)) : (kvsA ad ks).length = ks.length := by unfold kvsA; simp
theorem kvsA_get (ad : List Nat → Addr) (M : List (List Nat)) (l : List Nat) : valV (kvsA ad M) (kN l) = if l ∈ M then some (.ref (ad l)) else none := by
  induction M with
  | nil => rfl
  | cons m r ih =>
    have e : kvsA ad (m :: r) = (kN m, .ref (ad m)) :: kvsA ad r := rfl
    rw [e]
    by_cases h : m = l
    · subst h
      rw [valV_pos rfl, if_pos (by simp)]
    · have h' : ¬ (kN m = kN l) := fun z => h (kN_inj z)
      rw [valV_neg h', ih]
      simp [Ne.symm h, h]
def adS (ad : List Nat → Addr) (s : List Nat) (p : Addr) : List Nat → Addr := fun x => if x = s then p else ad x
theorem kvsA_put {ad : List Nat → Addr} {M : List (List Nat)} {l : List Nat} {p : Addr} (h : l ∉ M) : putK (kvsA ad M) (kN l) (.ref p) = kvsA (adS ad l p) (M ++ [l]) := by
  rw [putK_new _ (by rw [kvsA_get, if_neg h])]
  unfold kvsA adS
  rw [List.map_append]
  congr 1
  · refine List.map_congr_left fun k hk => ?_
    rw [if_neg (show ¬ k = l from fun z => h (z ▸ hk))]
  · simp
structure TabH (H H0 : Hp) (ad : List Nat → Addr) (T : TbL) : Prop where
  ent : ∀ t ∈ T, ∃ wv, H (ad t.1) = some (.lst [nV t.2.1, wv]) ∧ TN H wv t.2.2
  inj : ∀ t ∈ T, ∀ u ∈ T, ad t.1 = ad u.1 → t.1 = u.1
  new : ∀ t ∈ T, H0 (ad t.1) = none
theorem TabH.same {H H' H0 : Hp} {ad : List Nat → Addr} {T : TbL} (s : Same H H') (h : TabH H H0 ad T) : TabH H' H0 ad T := ⟨fun t ht => let ⟨wv, e, x⟩ := h.ent t ht; ⟨wv, s _ _ e, SamR.mono s x⟩, h.inj, h.new⟩
theorem dget_f {H : Hp} {a b : Addr} {od : Obj} {kvs : List (List Key × V)} {k : List Key} {v : V} (e : H a = some (.frz od (.dT kvs))) (eb : H b = some (.tup (k.map kV))) (hv : valV kvs k = some v) : DGet H a (.ref b) (some v) := .inr ⟨kvs, k, b, .inr ⟨od, e⟩, rfl, eb, hv.symm⟩
theorem at0 {x y : V} : atI [x, y] 0 = some x := (show atI [x, y] ((0 : Nat) : Int) = some x from atI_nat rfl)
theorem at1 {x y : V} : atI [x, y] 1 = some y := (show atI [x, y] ((1 : Nat) : Int) = some y from atI_nat rfl)
section
variable {P : Program} {w : World} {K : PySem.W.Frag} {mg : Str → Option Value}
def tRest (K : PySem.W.Frag) : TS := (tSeq (tAsg (tDGet (tVar 8) (tVar 11)) (gName 13))
  (tSeq (tAsg (tOp (rI0 fun i j => .int (i + j)) (tOp (rIxL K) (tVar 13) (tC (.int 0))) (tOp (rIxL K) (tDGet (tVar 3) (tVar 9)) (tC (.int 0)))) (gSub (tVar 13) (tC (.int 0)) rSetL))
  (tAsg (tCB (rMinT K) (tCons (tOp (rIxL K) (tVar 13) (tC (.int 1))) (tCons (tVar 12) tNil))) (gSub (tVar 13) (tC (.int 1)) rSetL))))
def tInner (K : PySem.W.Frag) : TS := (tSeq (tPar 11 12 (tCons (tCall sp_law_moved [] E0 (tCons (tVar 0) (tCons (tVar 9) (tCons (tVar 10) tNil)))) (tCons (tOp (rCatA K) (tOp (rIxL K) (tDGet (tVar 3) (tVar 9)) (tC (.int 1))) (tTup (tCons (tVar 10) tNil))) tNil)))
  (tSeq (tIfS (tB (tDNotIn (tVar 11) (tVar 8))) (sDPut (tVar 8) (tVar 11) (tLst (tCons (tC (.int 0)) (tCons (tVar 12) tNil)))) tNext) (tRest K)))
theorem rest_turn {D : Ends} {H0 H : Hp} {v0 v1 v2 v4 v5 v6 v7 v10 v13 : Option V} {d e b kb : Addr} {wv : V} {od : Obj} {ad ad3 : List Nat → Addr} {T L3 : TbL} {t : List Nat × (Nat × List Nat)} {s word : List Nat}
    (hd : H d = some (.frz od (.dT (kvsA ad (T.map (·.1)))))) (ht : t ∈ T) (ha : ∃ wv, H (ad t.1) = some (.lst [nV t.2.1, wv])) (hb : H b = some (.tup (NL t.1)))
    (he : H e = some (.dT (kvsA ad3 (L3.map (·.1))))) (LH : TabH H H0 ad3 L3) (hkb : H kb = some (.tup (NL s))) (hs : s ∈ L3.map (·.1)) (hwv : TN H wv word) (h0 : ∃ wv, H0 (ad t.1) = some (.lst [nV t.2.1, wv]))
    (q : ∀ v13' H', SmI H H' → (∀ x o, H0 x = some o → H x = some o → H' x = some o) → H' e = some (.dT (kvsA ad3 (L3.map (·.1)))) → TabH H' H0 ad3 (updT L3 s t.2.1 word) → D.nx [v0, v1, v2, some (.ref d), v4, v5, v6, v7, some (.ref e), some (.ref b), v10, some (.ref kb), some wv, v13'] H') :
    tRest K D [v0, v1, v2, some (.ref d), v4, v5, v6, v7, some (.ref e), some (.ref b), v10, some (.ref kb), some wv, v13] H := by
  obtain ⟨l0, hl0, rfl⟩ := List.mem_map.mp hs
  obtain ⟨w0, hp, hw0⟩ := LH.ent l0 hl0
  obtain ⟨tv, hta⟩ := ha
  have np := LH.new l0 hl0
  have dka : ad t.1 ≠ ad3 l0.1 := fun z => by obtain ⟨x, h⟩ := h0; rw [z, np] at h; cases h
  have epe : ad3 l0.1 ≠ e := fun z => by rw [z, he] at hp; cases hp
  have epd : ad3 l0.1 ≠ d := fun z => by rw [z, hd] at hp; cases hp
  have epb : ad3 l0.1 ≠ b := fun z => by rw [z, hb] at hp; cases hp
  obtain ⟨a0, rfl, ha0⟩ := id hw0
  obtain ⟨b0, rfl, hb0⟩ := id hwv
  have epa : ad3 l0.1 ≠ a0 := fun z => by rw [z, ha0] at hp; cases hp
  have epb0 : ad3 l0.1 ≠ b0 := fun z => by rw [z, hb0] at hp; cases hp
  refine ⟨_, rfl, _, rfl, e, .ref (ad3 l0.1), rfl, dget_t (k := kN l0.1) he (by rw [kN_map]; exact hkb) (by rw [kvsA_get, if_pos hs]), ?_⟩
  refine ⟨_, rfl, ad3 l0.1, _, 0, _, rfl, rfl, SqL.of hp, at0, ?_⟩
  refine ⟨_, rfl, _, rfl, d, .ref (ad t.1), rfl, dget_f (k := kN t.1) hd (by rw [kN_map]; exact hb) (by rw [kvsA_get, if_pos (List.mem_map.mpr ⟨t, ht, rfl⟩)]), ?_⟩
  refine ⟨ad t.1, _, 0, _, rfl, rfl, SqL.of hta, at0, _, _, rfl, rfl, ?_⟩
  refine ⟨_, rfl, ad3 l0.1, _, 0, 0, rfl, rfl, hp, rfl, ?_⟩
  refine ⟨_, rfl, ad3 l0.1, _, 1, _, rfl, rfl, SqL.of upd_same, at1, _, rfl, ?_⟩
  refine ⟨a0, b0, toI l0.2.2, toI word, rfl, ?_, ?_, ?_⟩
  · rw [← nl_toI]; exact SqT.of (by rw [upd_ne (Ne.symm epa)]; exact ha0)
  · rw [← nl_toI]; exact SqT.of (by rw [upd_ne (Ne.symm epb0)]; exact hb0)
  refine ⟨_, rfl, ad3 l0.1, _, 1, 1, rfl, rfl, upd_same, rfl, ?_⟩
  have eu : ∀ u v, upd (upd H (ad3 l0.1) u) (ad3 l0.1) v = upd H (ad3 l0.1) v := fun u v => by
    funext x
    by_cases z : x = ad3 l0.1
    · subst z; rw [upd_same, upd_same]
    · rw [upd_ne z, upd_ne z, upd_ne z]
  rw [eu]
  have sl := smi_lst (u := .lst [nV (l0.2.1 + t.2.1), V.ref (if HT.lexLt (toI word) (toI l0.2.2) = true then b0 else a0)]) hp
  show D.nx _ (upd H (ad3 l0.1) (.lst [nV (l0.2.1 + t.2.1), V.ref (if HT.lexLt (toI word) (toI l0.2.2) = true then b0 else a0)]))
  refine q _ _ sl (fun x o hx hh => ?_) (by rw [upd_ne (Ne.symm epe)]; exact he) ⟨fun u hu => ?_, fun u hu v hv => ?_, fun u hu => ?_⟩
  · rw [upd_ne]
    · exact hh
    · intro z; subst z; rw [np] at hx; cases hx
  · obtain ⟨x, hx, rfl⟩ := List.mem_map.mp hu
    obtain ⟨xw, hx1, hx2⟩ := LH.ent x hx
    by_cases z : x.1 = l0.1
    · rw [if_pos z]
      dsimp only
      rw [z] at hx1 ⊢
      rw [hp] at hx1
      have hx3 := Option.some.inj hx1
      injection hx3 with hx3
      injection hx3 with e1 e3
      injection e3 with e3 _
      subst e3
      have e4 := Int.ofNat.inj (V.int.inj e1)
      have e2 := tn_fun hx2 hw0
      rw [← e4]
      refine ⟨_, upd_same, ?_⟩
      rw [e2, lex_dec]
      unfold Mt.minW
      by_cases hlt : word < l0.2.2
      · rw [decide_eq_true hlt, if_pos rfl, if_pos hlt]
        exact ImmR.mono (smi_lst hp) hwv
      · rw [decide_eq_false hlt, if_neg (by decide), if_neg hlt]
        exact ImmR.mono (smi_lst hp) hw0
    · rw [if_neg z]
      refine ⟨xw, ?_, ImmR.mono sl hx2⟩
      rw [upd_ne fun z2 => z (LH.inj x hx l0 hl0 z2)]
      exact hx1
  · obtain ⟨x, hx, rfl⟩ := List.mem_map.mp hu
    obtain ⟨y, hy, rfl⟩ := List.mem_map.mp hv
    have k1 : ∀ z : List Nat × (Nat × List Nat), (if z.1 = l0.1 then (z.1, (z.2.1 + t.2.1, Mt.minW z.2.2 word)) else z).1 = z.1 := fun z => by split <;> rfl
    rw [k1, k1]
    exact LH.inj x hx y hy
  · obtain ⟨x, hx, rfl⟩ := List.mem_map.mp hu
    have k1 : ∀ z : List Nat × (Nat × List Nat), (if z.1 = l0.1 then (z.1, (z.2.1 + t.2.1, Mt.minW z.2.2 word)) else z).1 = z.1 := fun z => by split <;> rfl
    rw [k1]
    exact LH.new x hx
end
end K24
set_option Elab.async false
set_option linter.all false
set_option maxRecDepth 100000
set_option maxHeartbeats 4000000
namespace K24
open PySem PySem.Spec PyProof.Rows L2
section
variable {P : Program} {w : World} {K : PySem.W.Frag} {mg : Str → Option Value}
theorem inner_turn {D : Ends} {Hb H : Hp} {v1 v2 v4 v5 v6 v7 v11 v12 v13 : Option V} {d e b : Addr} {wv : V} {od : Obj} {ad ad' : List Nat → Addr} {T L : TbL} {t : List Nat × (Nat × List Nat)} {ws : List (List Nat)} {j : Nat} {H0 : Hp}
    (sb : Same Hb H) (hd : Hb d = some (.frz od (.dT (kvsA ad (T.map (·.1)))))) (TH : TabH Hb H0 ad T) (hws : Ls LN Hb wv ws) (ht : t ∈ T) (hb : H b = some (.tup (NL t.1))) (hl : t.1.length = ws.length) (h100 : ws.length ≤ 100) (ul : t.2.2.length ≤ 1000)
    (he : H e = some (.dT (kvsA ad' (L.map (·.1))))) (LH : TabH H Hb ad' L) (nde : Hb e = none) (Ll : L.length ≤ 1000)
    (q : ∀ v11' v12' v13' H' ad'', Same Hb H' → H' b = some (.tup (NL t.1)) → H' e = some (.dT (kvsA ad'' ((Mt.addT L (mv ws t.1 j) t.2.1 (t.2.2 ++ [j])).map (·.1)))) → TabH H' Hb ad'' (Mt.addT L (mv ws t.1 j) t.2.1 (t.2.2 ++ [j])) → D.nx [some wv, v1, v2, some (.ref d), v4, v5, v6, v7, some (.ref e), some (.ref b), some (nV j), v11', v12', v13'] H') :
    tInner K D [some wv, v1, v2, some (.ref d), v4, v5, v6, v7, some (.ref e), some (.ref b), some (nV j), v11, v12, v13] H := by
  obtain ⟨wv0, hta0, hw0⟩ := TH.ent t ht
  refine ⟨_, rfl, _, rfl, _, rfl, _, _, _, rfl, ws, t.1, j, SamR.mono sb hws, ⟨b, rfl, hb⟩, hl, rfl, h100, fun u H1 s1 hu => ?_⟩
  have sb1 := sb.trans s1
  refine ⟨_, rfl, _, rfl, d, .ref (ad t.1), rfl, dget_f (k := kN t.1) (sb1 _ _ hd) (by rw [kN_map]; exact s1 _ _ hb) (by rw [kvsA_get, if_pos (List.mem_map.mpr ⟨t, ht, rfl⟩)]), ?_⟩
  refine ⟨ad t.1, _, 1, _, rfl, rfl, SqL.of (sb1 _ _ hta0), at1, ?_⟩
  refine ⟨_, rfl, (by show 1 ≤ sizeLine; decide), fun b1 nb1 => ?_⟩
  have s2 := same_new (o := .tup [nV j]) nb1
  refine cat_word (u := t.2.2) (j := j) (SamR.mono (sb1.trans s2) hw0) upd_same ul fun z H3 s3 hz => ?_
  have s13 := s1.trans (s2.trans s3)
  have hu3 := SamR.mono (s2.trans s3) hu
  have sb3 := sb.trans s13
  have he3 := s13 _ _ he
  have LH3 := LH.same s13
  have hb3 := s13 _ _ hb
  generalize upd H1 b1 (.tup [nV j]) = Hx at s2 s3
  clear s2 s3 hu
  obtain ⟨kb, rfl, hkb⟩ := hu3
  refine ⟨_, _, rfl, ?_⟩
  refine ⟨_, rfl, _, rfl, e, _, rfl, DGet.t (k := kN (mv ws t.1 j)) he3 (by rw [kN_map]; exact hkb), _, rfl, ?_⟩
  rw [kvsA_get]
  by_cases hin : mv ws t.1 j ∈ L.map (·.1)
  · rw [if_pos hin]
    refine if_f rfl ?_
    refine rest_turn (K := K) (D := D) (ad := ad) (ad3 := ad') (T := T) (L3 := L) (H0 := Hb) (t := t) (s := mv ws t.1 j) (word := t.2.2 ++ [j]) (sb3 _ _ hd) ht ⟨_, sb3 _ _ hta0⟩ hb3 he3 LH3 hkb hin hz ⟨_, hta0⟩ fun v13' H' si keep he' LH' => ?_
    rw [← addT_old' hin] at LH'
    refine q _ _ _ H' ad' (fun x o hx => keep x o hx (sb3 _ _ hx)) (si _ _ trivial hb3) ?_ LH'
    rw [addT_old' hin, updT_keys]
    exact he'
  · rw [if_neg hin]
    refine if_t rfl ?_
    refine ⟨_, rfl, (by show 2 ≤ sizeLine; decide), fun p np => ?_⟩
    have s4 := same_new (o := .lst [V.int 0, z]) np
    have npe : e ≠ p := fun x => by rw [x, np] at he3; cases he3
    have npd : p ≠ e := Ne.symm npe
    refine ⟨_, rfl, _, rfl, e, _, rfl, DPut.t (k := kN (mv ws t.1 j)) (s4 _ _ he3) (by rw [kN_map]; exact s4 _ _ hkb) ?_, ?_⟩
    · rw [kvsA_len, List.length_map]
      exact Nat.lt_of_le_of_lt (Ll : L.length ≤ 1000) (by decide)
    rw [kvsA_put hin]
    have npb : Hb p = none := same_none sb3 np
    have sb5 : Same Hb (upd (upd H3 p (.lst [V.int 0, z])) e (.dT (kvsA (adS ad' (mv ws t.1 j) p) (L.map (·.1) ++ [mv ws t.1 j])))) := same_out (sb3.trans s4) nde
    have i5 : SmI H3 (upd (upd H3 p (.lst [V.int 0, z])) e (.dT (kvsA (adS ad' (mv ws t.1 j) p) (L.map (·.1) ++ [mv ws t.1 j])))) := (smi s4).trans (smi_dT (s4 _ _ he3))
    have k5 : ∀ x o, x ≠ e → H3 x = some o → (upd (upd H3 p (.lst [V.int 0, z])) e (.dT (kvsA (adS ad' (mv ws t.1 j) p) (L.map (·.1) ++ [mv ws t.1 j])))) x = some o := fun x o hx h => by rw [upd_ne hx]; exact s4 _ _ h
    have p5 : (upd (upd H3 p (.lst [V.int 0, z])) e (.dT (kvsA (adS ad' (mv ws t.1 j) p) (L.map (·.1) ++ [mv ws t.1 j])))) p = some (.lst [V.int 0, z]) := by rw [upd_ne npd, upd_same]
    have e5 : (upd (upd H3 p (.lst [V.int 0, z])) e (.dT (kvsA (adS ad' (mv ws t.1 j) p) (L.map (·.1) ++ [mv ws t.1 j])))) e = some (.dT (kvsA (adS ad' (mv ws t.1 j) p) ((L ++ [(mv ws t.1 j, (0, t.2.2 ++ [j]))] : TbL).map (·.1)))) := by rw [upd_same, List.map_append]; rfl
    generalize upd (upd H3 p (.lst [V.int 0, z])) e (.dT (kvsA (adS ad' (mv ws t.1 j) p) (L.map (·.1) ++ [mv ws t.1 j]))) = H5 at sb5 i5 k5 p5 e5 ⊢
    have LH5 : TabH H5 Hb (adS ad' (mv ws t.1 j) p) (L ++ [(mv ws t.1 j, (0, t.2.2 ++ [j]))]) := by
      have ev : ∀ x ∈ L, adS ad' (mv ws t.1 j) p x.1 = ad' x.1 := fun x hx => by
        unfold adS
        rw [if_neg fun y => hin (List.mem_map.mpr ⟨x, hx, y⟩)]
      have es : adS ad' (mv ws t.1 j) p (mv ws t.1 j) = p := by unfold adS; rw [if_pos rfl]
      have np' : ∀ x ∈ L, ad' x.1 ≠ p := fun x hx y => by
        obtain ⟨_, h1, _⟩ := LH3.ent x hx
        rw [y, np] at h1
        cases h1
      refine ⟨fun x hx => ?_, fun x hx y hy => ?_, fun x hx => ?_⟩
      · rcases List.mem_append.mp hx with hx | hx
        · obtain ⟨xw, h1, h2⟩ := LH3.ent x hx
          rw [ev x hx]
          exact ⟨xw, k5 _ _ (fun y => by rw [y, he3] at h1; cases h1) h1, ImmR.mono i5 h2⟩
        · cases List.mem_singleton.mp hx
          dsimp only
          rw [es]
          exact ⟨z, p5, ImmR.mono i5 hz⟩
      · rcases List.mem_append.mp hx with hx | hx <;> rcases List.mem_append.mp hy with hy | hy
        · rw [ev x hx, ev y hy]
          exact LH3.inj x hx y hy
        · cases List.mem_singleton.mp hy
          dsimp only
          rw [ev x hx, es]
          exact fun h => absurd h (np' x hx)
        · cases List.mem_singleton.mp hx
          dsimp only
          rw [ev y hy, es]
          exact fun h => absurd h.symm (np' y hy)
        · cases List.mem_singleton.mp hx
          cases List.mem_singleton.mp hy
          exact fun _ => rfl
      · rcases List.mem_append.mp hx with hx | hx
        · rw [ev x hx]
          exact LH3.new x hx
        · cases List.mem_singleton.mp hx
          dsimp only
          rw [es]
          exact npb
    have hin5 : mv ws t.1 j ∈ (L ++ [(mv ws t.1 j, (0, t.2.2 ++ [j]))] : TbL).map (·.1) := by simp
    have hkb5 : H5 kb = some (.tup (NL (mv ws t.1 j))) := i5 _ _ trivial hkb
    have hb5 : H5 b = some (.tup (NL t.1)) := i5 _ _ trivial hb3
    refine rest_turn (K := K) (D := D) (ad := ad) (ad3 := adS ad' (mv ws t.1 j) p) (T := T) (L3 := L ++ [(mv ws t.1 j, (0, t.2.2 ++ [j]))]) (H0 := Hb) (t := t) (s := mv ws t.1 j) (word := t.2.2 ++ [j]) (sb5 _ _ hd) ht ⟨_, sb5 _ _ hta0⟩ hb5 e5 LH5 hkb5 hin5 (ImmR.mono i5 hz) ⟨_, hta0⟩ fun v13' H' si keep he' LH' => ?_
    rw [← addT_new' hin] at LH'
    refine q _ _ _ H' _ (fun x o hx => keep x o hx (sb5 _ _ hx)) (si _ _ trivial hb5) ?_ LH'
    rw [addT_new' hin, updT_keys]
    exact he'
end
end K24
set_option Elab.async false
set_option linter.all false
set_option maxRecDepth 100000
set_option maxHeartbeats 4000000
namespace K24
open PySem PySem.Spec PyProof.Rows L2
theorem for_walk {J : It} {g : TG} {n : Nat} {G : Hp → Prop} {Y : Nat → Hp → V → Hp → Prop} (w : Walk J n G Y) {tb : TS} {D : Ends} {σ : L2.St} {H : Hp} (Pv : Nat → L2.St → Hp → Prop) (h0 : Pv 0 σ H) (hG : ∀ i σ H, i ≤ n → Pv i σ H → G H)
    (hs : ∀ i x σ H H', i < n → Pv i σ H → Y i H x H' → g x σ H' fun σ2 H2 => tb { D with nx := Pv (i + 1), ct := Pv (i + 1), bk := D.nx } σ2 H2) (hd : ∀ σ H, Pv n σ H → D.nx σ H) :
    ∃ W : Nat → Nat → L2.St → Hp → Prop, (∃ m, W 0 m σ H) ∧ ∀ i m σ H, W i m σ H →
      (J.stop i H ∧ D.nx σ H) ∨ (J.go i H ∧ ∃ N : L2.St → Hp → Prop, (∀ σ' H', N σ' H' → ∃ m', m' < m ∧ W (i + 1) m' σ' H') ∧ ∀ x H', J.yld i H x H' → g x σ H' fun σ2 H2 => tb { D with nx := N, ct := N, bk := D.nx } σ2 H2) := by
  refine ⟨fun i m σ H => m = n - i ∧ i ≤ n ∧ Pv i σ H, ⟨n, by simp, Nat.zero_le _, h0⟩, ?_⟩
  rintro i m σ H ⟨rfl, hi, p⟩
  have q := hG i σ H hi p
  by_cases hlt : i < n
  · exact .inr ⟨w.goes i H hlt q, Pv (i + 1), fun σ' H' p' => ⟨n - (i + 1), by omega, rfl, hlt, p'⟩, fun x H' y => hs i x σ H H' hlt p (w.yields i H x H' hlt q y)⟩
  · have e : i = n := by omega
    subst e
    exact .inl ⟨w.stops H q, hd σ H p⟩
theorem keys_bnd {ws : List (List Nat)} {L : TbL} (h4 : ∀ w ∈ ws, w.length ≤ 4) (h3 : ws.length ≤ 3) (nd : (L.map (·.1)).Nodup) (h : ∀ e ∈ L, Mt.run (mv ws) (st0 ws) e.2.2 = e.1) : L.length ≤ 125 ∧ ∀ e ∈ L, e.1.length = ws.length := by
  have hb : ∀ e ∈ L, Bnd ws e.1 := fun e he => by
    rw [← h e he]
    exact bnd_run _ (bnd_st0 ws)
  refine ⟨?_, fun e he => (hb e he).len⟩
  have h1 := List.Nodup.length_le_of_subset nd (l₂ := allSt ws) fun k hk => by
    obtain ⟨e, he, rfl⟩ := List.mem_map.mp hk
    exact mem_allSt (hb e he)
  rw [List.length_map] at h1
  refine Nat.le_trans h1 (Nat.le_trans (allSt_len h4) ?_)
  exact Nat.pow_le_pow_right (n := 5) (by decide) h3
abbrev TabW (ws : List (List Nat)) (c m : Nat) (T : TbL) : Prop := Mt.Tab (mv ws) c (finW ws) (st0 ws) m T
def BestAt (ws : List (List Nat)) (c m : Nat) : Rl Unit := fun H b _ => (b = .non ∧ ∀ v, Mt.Ok c v → v.length < m → Mt.run (mv ws) (st0 ws) v ≠ whole ws) ∨ ∃ u, TN H b u ∧ Mt.Best (mv ws) c (fun s => s = whole ws) (st0 ws) u
theorem BestAt.mono {ws c m H H' b} (s : SmI H H') (h : BestAt ws c m H b ()) : BestAt ws c m H' b () := by
  rcases h with h | ⟨u, h1, h2⟩
  · exact .inl h
  · exact .inr ⟨u, ImmR.mono s h1, h2⟩
def cntW (ws : List (List Nat)) (c m : Nat) : Nat := Mt.cnt (mv ws) c (finW ws) m (st0 ws)
theorem cl_ne {cs : List Nat} {x y : V} {a : Addr} (h : NL cs = [x, .ref a]) : False := by
  have := congrArg (fun l : List V => l[1]?) h
  unfold NL at this
  simp only [List.getElem?_map] at this
  cases e : cs[1]? with
  | none => rw [e] at this; cases this
  | some z => rw [e] at this; cases this
section
variable {P : Program} {w : World} {K : PySem.W.Frag} {mg : Str → Option Value}
def tTurn2 (K : PySem.W.Frag) : TS := (tSeq (tDrop (tBM K "list" rAppend (tVar 4) (tCons (tIf (tB (tDIn (tVar 6) (tVar 3))) (tOp (rIxL K) (tDGet (tVar 3) (tVar 6)) (tC (.int 0))) (tC (.int 0))) tNil)))
  (tSeq (tAsg tDNewT (gName 8))
  (tSeq (tLock (tFor (iKeys (tVar 3)) (gName 9) (tFor (iRng1 (tCons (tVar 1) tNil)) (gName 10) (tInner K))))
  (tAsg (tVar 8) (gName 3)))))
def tTurn1 (K : PySem.W.Frag) : TS := (tSeq (tIfS (tAnd (tB (tDIn (tVar 6) (tVar 3))) (tTest (tOp rIsNo (tVar 5) (tC (.non))))) (tAsg (tOp (rIxL K) (tDGet (tVar 3) (tVar 6)) (tC (.int 1))) (gName 5)) tNext) (tTurn2 K))
theorem most_turn2 {D : Ends} {Hs H : Hp} {ws : List (List Nat)} {c n m : Nat} {wa d cl wh : Addr} {bv : V} {x7 x8 x9 x10 x11 x12 x13 : Option V} {ad : List Nat → Addr} {T : TbL} {cs : List Nat}
    (h4 : ∀ w ∈ ws, w.length ≤ 4) (h3 : ws.length ≤ 3) (hc : c ≤ 100) (hm : m ≤ 100) (ss : Same Hs H) (hws : Ls LN Hs (.ref wa) ws)
    (hd : H d = some (.dT (kvsA ad (T.map (·.1))))) (TH : TabH H Hs ad T) (TW : TabW ws c m T) (hcl : H cl = some (.lst (NL cs))) (ncl : Hs cl = none) (csl : cs.length ≤ 100) (hwh : H wh = some (.tup (NL (whole ws)))) (B : BestAt ws c (m + 1) H bv ())
    (q : ∀ e x8 x9 x10 x11 x12 x13 H' ad' T', Same Hs H' → H' e = some (.dT (kvsA ad' (T'.map (·.1)))) → TabH H' Hs ad' T' → TabW ws c (m + 1) T' → H' cl = some (.lst (NL (cs ++ [cntW ws c m]))) → H' wh = some (.tup (NL (whole ws))) → BestAt ws c (m + 1) H' bv () →
      D.nx [some (.ref wa), some (nV c), some (nV n), some (.ref e), some (.ref cl), some bv, some (.ref wh), x7, x8, x9, x10, x11, x12, x13] H') :
    tTurn2 K D [some (.ref wa), some (nV c), some (nV n), some (.ref d), some (.ref cl), some bv, some (.ref wh), x7, x8, x9, x10, x11, x12, x13] H := by
  obtain ⟨Tl, Tk⟩ := keys_bnd h4 h3 TW.nd fun e he => (TW.ent e he).2.2
  have hcnt : cntW ws c m = match Mt.look T (whole ws) with
    | some p => p.1
    | none => 0 := Mt.tab_count TW (s := whole ws) fun t => rfl
  -- counts.append(..)
  have app : ∀ x : Nat, x = cntW ws c m → ∀ Q : Hp → Prop, (Q (upd H cl (.lst (NL (cs ++ [cntW ws c m]))))) → rAppend (.ref cl) [nV x] H fun _ H' => Q H' := by
    intro x hx Q hQ
    subst hx
    refine ⟨cl, NL cs, _, rfl, rfl, hcl, ?_, ?_⟩
    · rw [nl_len]
      exact Nat.lt_of_le_of_lt csl (by decide)
    · have : NL cs ++ [nV (cntW ws c m)] = NL (cs ++ [cntW ws c m]) := by unfold NL; rw [List.map_append]; rfl
      rw [this]
      exact hQ
  refine ⟨_, rfl, .inl ⟨rfl, _, SqL.of hcl⟩, ?_⟩
  refine ⟨_, rfl, _, rfl, d, _, rfl, DGet.t (k := kN (whole ws)) hd (by rw [kN_map]; exact hwh), _, rfl, ?_⟩
  rw [kvsA_get]
  have main : tSeq (tAsg tDNewT (gName 8)) (tSeq (tLock (tFor (iKeys (tVar 3)) (gName 9) (tFor (iRng1 (tCons (tVar 1) tNil)) (gName 10) (tInner K)))) (tAsg (tVar 8) (gName 3))) D [some (.ref wa), some (nV c), some (nV n), some (.ref d), some (.ref cl), some bv, some (.ref wh), x7, x8, x9, x10, x11, x12, x13] (upd H cl (.lst (NL (cs ++ [cntW ws c m])))) := by
    have dcl : d ≠ cl := fun z => by rw [z, hcl] at hd; cases hd
    have i1 := smi_lst (u := .lst (NL (cs ++ [cntW ws c m]))) hcl
    have TH1 : TabH (upd H cl (.lst (NL (cs ++ [cntW ws c m])))) Hs ad T := by
      refine ⟨fun t ht => ?_, TH.inj, TH.new⟩
      obtain ⟨wv, h1, h2⟩ := TH.ent t ht
      refine ⟨wv, ?_, ImmR.mono i1 h2⟩
      rw [upd_ne]
      · exact h1
      · intro z
        obtain ⟨b, rfl, _⟩ := h2
        rw [z, hcl] at h1
        have := Option.some.inj h1
        injection this with this
        exact cl_ne (y := .non) this
    have s1 : Same Hs (upd H cl (.lst (NL (cs ++ [cntW ws c m])))) := same_out ss ncl
    have d1 : (upd H cl (.lst (NL (cs ++ [cntW ws c m])))) d = some (.dT (kvsA ad (T.map (·.1)))) := by rw [upd_ne dcl]; exact hd
    have c1 : (upd H cl (.lst (NL (cs ++ [cntW ws c m])))) cl = some (.lst (NL (cs ++ [cntW ws c m]))) := upd_same
    have w1 := i1 wh (.tup (NL (whole ws))) trivial hwh
    have B1 := B.mono i1
    generalize upd H cl (.lst (NL (cs ++ [cntW ws c m]))) = H1 at i1 TH1 s1 d1 c1 w1 B1 ⊢
    intro e ne
    have ed : d ≠ e := ne_of_none d1 ne
    refine ⟨d, .dT (kvsA ad (T.map (·.1))), (by rw [upd_ne ed]; exact d1), trivial, fun od => ?_⟩
    have xb : SmX d H1 (upd H1 d (.frz od (.dT (kvsA ad (T.map (·.1)))))) := smx_upd
    have ib := smi_x d1 (fun z => z) xb
    have db : (upd H1 d (.frz od (.dT (kvsA ad (T.map (·.1)))))) d = some (.frz od (.dT (kvsA ad (T.map (·.1))))) := upd_same
    have eb : (upd H1 d (.frz od (.dT (kvsA ad (T.map (·.1)))))) e = none := by rw [upd_ne (Ne.symm ed)]; exact ne
    have s3 : Same (upd H1 d (.frz od (.dT (kvsA ad (T.map (·.1)))))) (upd (upd H1 e (.dT [])) d (.frz od (.dT (kvsA ad (T.map (·.1)))))) := fun b o h => by
      by_cases z : b = d
      · subst z
        rw [upd_same] at h ⊢
        exact h
      · rw [upd_ne z] at h ⊢
        exact same_new ne _ _ h
    have e3 : (upd (upd H1 e (.dT [])) d (.frz od (.dT (kvsA ad (T.map (·.1)))))) e = some (.dT (kvsA ad ([] : List (List Nat)))) := by rw [upd_ne (Ne.symm ed), upd_same]; rfl
    have bn : ∀ x, (upd H1 d (.frz od (.dT (kvsA ad (T.map (·.1)))))) x = none → H1 x = none ∧ x ≠ d := fun x h => by
      have : x ≠ d := fun z => by rw [z, upd_same] at h; cases h
      rw [upd_ne this] at h
      exact ⟨h, this⟩
    have bk : ∀ H', Same (upd H1 d (.frz od (.dT (kvsA ad (T.map (·.1)))))) H' → Same H1 (upd H' d (.dT (kvsA ad (T.map (·.1))))) := fun H' s => lock_same d1 s
    have THb : TabH (upd H1 d (.frz od (.dT (kvsA ad (T.map (·.1)))))) Hs ad T := ⟨fun t ht => let ⟨wv, h1, h2⟩ := TH1.ent t ht; ⟨wv, xb _ _ (fun z => by rw [z, d1] at h1; cases h1) h1, ImmR.mono ib h2⟩, TH1.inj, TH1.new⟩
    have hwsb : Ls LN (upd H1 d (.frz od (.dT (kvsA ad (T.map (·.1)))))) (.ref wa) ws := by
      obtain ⟨a, us, z1, z2, z3⟩ := SamR.mono s1 hws
      refine ⟨a, us, z1, xb _ _ (fun z => by rw [z, d1] at z2; cases z2) z2, L2.Paired.mapP z3 fun _ _ ⟨b, y1, y2⟩ => ⟨b, y1, xb _ _ (fun z => by rw [z, d1] at y2; cases y2) y2⟩⟩
    refine ⟨_, rfl, d, od, rfl, .inr ⟨kvsA ad (T.map (·.1)), upd_same, ?_⟩⟩
    generalize upd (upd H1 e (.dT [])) d (.frz od (.dT (kvsA ad (T.map (·.1))))) = H3 at s3 e3
    generalize upd H1 d (.frz od (.dT (kvsA ad (T.map (·.1))))) = Hb at xb ib db eb s3 bn bk THb hwsb
    refine for_walk walk_keysT (fun i σ H' => ∃ x9 x10 x11 x12 x13, σ = [some (.ref wa), some (nV c), some (nV n), some (.ref d), some (.ref cl), some bv, some (.ref wh), x7, some (.ref e), x9, x10, x11, x12, x13] ∧ Same Hb H' ∧ ∃ L ad', H' e = some (.dT (kvsA ad' (L.map (·.1)))) ∧ TabH H' Hb ad' L ∧ Mt.TabM (mv ws) c (finW ws) (st0 ws) m T i 0 L)
      ⟨_, _, _, _, _, rfl, s3, [], ad, e3, ⟨fun t ht => absurd ht List.not_mem_nil, fun t ht => absurd ht List.not_mem_nil, fun t ht => absurd ht List.not_mem_nil⟩, Mt.tabm_start⟩ (fun i σ H' _ ⟨_, _, _, _, _, _, s, _⟩ => s _ _ db) (fun i x σ H4 H5 hi ⟨x9, x10, x11, x12, x13, eσ, s4, L, ad', e4, LH, M⟩ ⟨eH, k, v, kb, hk, ex, hkb⟩ => ?_) (fun σ H4 ⟨x9, x10, x11, x12, x13, eσ, s4, L, ad', e4, LH, M⟩ => ?_)
    · subst eσ eH ex
      rw [kvsA_len, List.length_map] at hi
      obtain ⟨t, htt⟩ := lt_get (xs := T) (i := i) hi
      have ht := mem_get htt
      have hkk : k = kN t.1 := by
        unfold kvsA at hk
        rw [List.getElem?_map, List.getElem?_map, htt] at hk
        exact (Prod.mk.inj (Option.some.inj hk)).1.symm
      subst hkk
      rw [kN_map] at hkb
      refine ⟨_, rfl, (c : Int), rfl, by omega, by omega, ?_⟩
      rw [Int.toNat_natCast]
      refine for_go (iw_range (p := 10)) (fun j σ H' => ∃ x10 x11 x12 x13, σ = [some (.ref wa), some (nV c), some (nV n), some (.ref d), some (.ref cl), some bv, some (.ref wh), x7, some (.ref e), some (.ref kb), x10, x11, x12, x13] ∧ Same Hb H' ∧ H' kb = some (.tup (NL t.1)) ∧ ∃ L ad', H' e = some (.dT (kvsA ad' (L.map (·.1)))) ∧ TabH H' Hb ad' L ∧ Mt.TabM (mv ws) c (finW ws) (st0 ws) m T i j L)
        ⟨_, _, _, _, rfl, s4, hkb, L, ad', e4, LH, M⟩ (fun _ _ _ _ _ => trivial) (fun j σ H6 H7 hj ⟨x10, x11, x12, x13, eσ, s6, kb6, L, ad', e6, LH, M⟩ s7 => ?_) (fun σ H6 ⟨x10, x11, x12, x13, eσ, s6, kb6, L, ad', e6, LH, M⟩ => ?_)
      · subst eσ
        obtain ⟨Ll, _⟩ := keys_bnd h4 h3 M.nd fun e he => (M.ent e he).2.2
        have hjv : (V.int (0 + (j : Nat))) = nV j := by rw [Int.zero_add]
        show tInner K _ [some (.ref wa), some (nV c), some (nV n), some (.ref d), some (.ref cl), some bv, some (.ref wh), x7, some (.ref e), some (.ref kb), some (V.int (0 + (j : Nat))), x11, x12, x13] H7
        rw [hjv]
        refine inner_turn (K := K) (s6.trans s7) db THb hwsb ht (s7 _ _ kb6) (Tk t ht) (by omega) (by rw [(TW.ent t ht).2.1]; omega) (s7 _ _ e6) (LH.same s7) eb (by omega) fun v11 v12 v13 H8 ad8 s8 k8 e8 LH8 => ?_
        exact ⟨_, _, _, _, rfl, s8, k8, _, ad8, e8, LH8, Mt.tabm_turn TW M htt hj⟩
      · subst eσ
        exact ⟨_, _, _, _, _, rfl, s6, L, ad', e6, LH, Mt.tabm_row htt M⟩
    · subst eσ
      rw [kvsA_len, List.length_map] at M
      have TW' := Mt.tabm_end TW M
      refine ⟨s4 _ _ db, ?_⟩
      have s5 := bk _ s4
      refine ⟨_, rfl, ?_⟩
      have x5 : ∀ x o, x ≠ d → H4 x = some o → (upd H4 d (.dT (kvsA ad (T.map (·.1))))) x = some o := fun x o hx h => by rw [upd_ne hx]; exact h
      have i5 : SmI H4 (upd H4 d (.dT (kvsA ad (T.map (·.1))))) := smi_x (s4 _ _ db) (fun z => z) x5
      refine q e _ _ _ _ _ _ _ ad' L (s1.trans s5) (x5 _ _ (Ne.symm ed) e4) ⟨fun t ht => ?_, LH.inj, fun t ht => same_none s1 (bn _ (LH.new t ht)).1⟩ TW' (s5 _ _ c1) (s5 _ _ w1) (B1.mono (smi s5))
      obtain ⟨wv, h1, h2⟩ := LH.ent t ht
      exact ⟨wv, x5 _ _ (bn _ (LH.new t ht)).2 h1, ImmR.mono i5 h2⟩
  by_cases hin : whole ws ∈ T.map (·.1)
  · obtain ⟨t, ht, et⟩ := List.mem_map.mp hin
    obtain ⟨wv, h1, h2⟩ := TH.ent t ht
    have hl := Mt.look_of_mem TW.nd (s := t.1) (p := t.2) ht
    rw [et] at hl h1
    rw [hl] at hcnt
    rw [if_pos hin]
    refine if_t rfl ?_
    refine ⟨_, rfl, _, rfl, d, .ref (ad (whole ws)), rfl, dget_t (k := kN (whole ws)) hd (by rw [kN_map]; exact hwh) (by rw [kvsA_get, if_pos hin]), ?_⟩
    refine ⟨_, _, 0, _, rfl, rfl, SqL.of h1, at0, ?_⟩
    exact app t.2.1 hcnt.symm _ main
  · have hl : Mt.look T (whole ws) = none := by
      cases hh : Mt.look T (whole ws) with
      | none => rfl
      | some p => exact absurd (Mt.key_mem.mp (by rw [hh]; rfl)) hin
    rw [hl] at hcnt
    rw [if_neg hin]
    refine if_f rfl ?_
    exact app 0 hcnt.symm _ main
end
end K24
set_option Elab.async false
set_option linter.all false
set_option maxRecDepth 100000
set_option maxHeartbeats 4000000
namespace K24
open PySem PySem.Spec PyProof.Rows L2
section
variable {P : Program} {w : World} {K : PySem.W.Frag} {mg : Str → Option Value}
theorem most_turn1 {D : Ends} {Hs H : Hp} {ws : List (List Nat)} {c n m : Nat} {wa d cl wh : Addr} {bv : V} {x7 x8 x9 x10 x11 x12 x13 : Option V} {ad : List Nat → Addr} {T : TbL} {cs : List Nat}
    (h4 : ∀ w ∈ ws, w.length ≤ 4) (h3 : ws.length ≤ 3) (hc : c ≤ 100) (hm : m ≤ 100) (ss : Same Hs H) (hws : Ls LN Hs (.ref wa) ws)
    (hd : H d = some (.dT (kvsA ad (T.map (·.1))))) (TH : TabH H Hs ad T) (TW : TabW ws c m T) (hcl : H cl = some (.lst (NL cs))) (ncl : Hs cl = none) (csl : cs.length ≤ 100) (hwh : H wh = some (.tup (NL (whole ws)))) (B : BestAt ws c m H bv ())
    (q : ∀ e bv' x8 x9 x10 x11 x12 x13 H' ad' T', Same Hs H' → H' e = some (.dT (kvsA ad' (T'.map (·.1)))) → TabH H' Hs ad' T' → TabW ws c (m + 1) T' → H' cl = some (.lst (NL (cs ++ [cntW ws c m]))) → H' wh = some (.tup (NL (whole ws))) → BestAt ws c (m + 1) H' bv' () →
      D.nx [some (.ref wa), some (nV c), some (nV n), some (.ref e), some (.ref cl), some bv', some (.ref wh), x7, x8, x9, x10, x11, x12, x13] H') :
    tTurn1 K D [some (.ref wa), some (nV c), some (nV n), some (.ref d), some (.ref cl), some bv, some (.ref wh), x7, x8, x9, x10, x11, x12, x13] H := by
  have after : ∀ bv', BestAt ws c (m + 1) H bv' () → tTurn2 K D [some (.ref wa), some (nV c), some (nV n), some (.ref d), some (.ref cl), some bv', some (.ref wh), x7, x8, x9, x10, x11, x12, x13] H := fun bv' B' =>
    most_turn2 h4 h3 hc hm ss hws hd TH TW hcl ncl csl hwh B' fun e => q e bv'
  have hf : ∀ t, t = whole ws ↔ t = whole ws := fun _ => Iff.rfl
  refine ⟨_, rfl, _, rfl, d, _, rfl, DGet.t (k := kN (whole ws)) hd (by rw [kN_map]; exact hwh), _, rfl, ?_⟩
  rw [kvsA_get]
  by_cases hin : whole ws ∈ T.map (·.1)
  · obtain ⟨t, ht, et⟩ := List.mem_map.mp hin
    obtain ⟨wv, h1, h2⟩ := TH.ent t ht
    have hl := Mt.look_of_mem TW.nd (s := t.1) (p := t.2) ht
    rw [et] at hl h1
    rw [if_pos hin]
    refine if_t rfl ?_
    refine ⟨_, rfl, rfl, _, rfl, ?_⟩
    rcases B with ⟨rfl, hno⟩ | ⟨u, hu, hbst⟩
    · refine if_t (decide_eq_true rfl) ?_
      refine ⟨_, rfl, _, rfl, d, .ref (ad (whole ws)), rfl, dget_t (k := kN (whole ws)) hd (by rw [kN_map]; exact hwh) (by rw [kvsA_get, if_pos hin]), ?_⟩
      refine ⟨_, _, 1, _, rfl, rfl, SqL.of h1, at1, ?_⟩
      exact after wv (.inr ⟨t.2.2, h2, Mt.tab_best TW hf hno hl⟩)
    · obtain ⟨a, rfl, _⟩ := id hu
      refine if_f (decide_eq_false (by simp)) ?_
      exact after _ (.inr ⟨u, hu, hbst⟩)
  · have hl : Mt.look T (whole ws) = none := by
      cases hh : Mt.look T (whole ws) with
      | none => rfl
      | some p => exact absurd (Mt.key_mem.mp (by rw [hh]; rfl)) hin
    rw [if_neg hin]
    refine if_f rfl ?_
    refine if_f rfl ?_
    refine after bv ?_
    rcases B with ⟨rfl, hno⟩ | h
    · exact .inl ⟨rfl, Mt.tab_no TW hf hno hl⟩
    · exact .inr h
def sp_law_most : Sp := S3 fun wv cv lv H Q _ => ∃ ws c n, Ls LN H wv ws ∧ cv = nV c ∧ lv = nV n ∧ n ≤ 12 ∧ ws.length ≤ 3 ∧ (∀ w ∈ ws, w.length ≤ 4) ∧ c ≤ 100 ∧
  ∀ a cl bv H', Same H H' → H' a = some (.lst [.ref cl, bv]) → H' cl = some (.lst (NL ((List.range (n + 1)).map (cntW ws c)))) → H cl = none → BestAt ws c (n + 1) H' bv () → Q (.ref a) H'
theorem rd_law_most {vs : List V} {H : Hp} {Q : VK} {E : XK} (h : sp_law_most vs H Q E) : t_law_most P w K sp_law_moved (Dn Q) (start N_law_most vs) H := by
  obtain ⟨wv, cv, lv, rfl, ws, c, n, hws, rfl, rfl, hn, h3, h4, hc, q⟩ := h
  obtain ⟨wa, wvs, rfl, hwa, hwp⟩ := id hws
  have hwl := Paired.len hwp
  intro d nd
  have s1 := same_new (o := .dT []) nd
  refine ⟨(by show 1 ≤ sizeLine; decide), fun a1 n1 => ⟨_, rfl, wa, wvs, rfl, .inl (SqL.of ((same_new n1) _ _ (s1 _ _ hwa))), a1, (wvs.length : Int), _, rfl, rfl, upd_same, by omega, by omega, ?_, fun a2 n2 => ?_⟩⟩
  · show 1 * ((wvs.length : Int)).toNat ≤ sizeLine
    exact Nat.le_trans (by omega : 1 * ((wvs.length : Int)).toNat ≤ 1000) (by decide)
  rw [rep_flat, Int.toNat_natCast]
  have s2 := (same_new (o := .lst [V.int 0]) n1).trans (same_new (o := .lst (List.replicate wvs.length (V.int 0))) n2)
  have e2 : (upd (upd (upd H d (.dT [])) a1 (.lst [V.int 0])) a2 (.lst (List.replicate wvs.length (V.int 0)))) a2 = some (.lst (NL (st0 ws))) := by
    rw [upd_same]
    unfold st0
    rw [nl_rep, hwl]
    rfl
  have d2 := s2 _ _ (upd_same (H := H) (a := d) (o := .dT []))
  generalize upd (upd (upd H d (.dT [])) a1 (.lst [V.int 0])) a2 (.lst (List.replicate wvs.length (V.int 0))) = H2 at s2 e2 d2 ⊢
  refine kTup_new e2 fun kt H3 s3 e3 => ?_
  refine ⟨Nat.zero_le _, fun t0 nt0 => ⟨(by show 2 ≤ sizeLine; decide), fun p0 np0 => ?_⟩⟩
  have s4 := (same_new (o := .tup []) nt0).trans (same_new (o := .lst [V.int 1, .ref t0]) np0)
  have np0' := same_none (s1.trans (s2.trans (s3.trans (same_new (o := .tup []) nt0)))) np0
  have d4 := s4 _ _ (s3 _ _ d2)
  have k4 := s4 _ _ e3
  have t4 := (same_new (o := .lst [V.int 1, .ref t0]) np0) _ _ (upd_same (H := H3) (a := t0) (o := .tup []))
  have p4 : (upd (upd H3 t0 (.tup [])) p0 (.lst [V.int 1, .ref t0])) p0 = some (.lst [V.int 1, .ref t0]) := upd_same
  refine ⟨d4, kN (st0 ws), kt, rfl, by rw [kN_map]; exact k4, ?_⟩
  have s14 := s1.trans (s2.trans (s3.trans s4))
  generalize upd (upd H3 t0 (.tup [])) p0 (.lst [V.int 1, .ref t0]) = H4 at s4 d4 k4 t4 p4 s14 ⊢
  have s5 : Same H (upd H4 d (.dT [(kN (st0 ws), .ref p0)])) := same_out s14 nd
  have i5 := smi_dT (u := .dT [(kN (st0 ws), .ref p0)]) d4
  have pd : p0 ≠ d := fun z => by rw [z, d4] at p4; cases p4
  have d5 : (upd H4 d (.dT [(kN (st0 ws), .ref p0)])) d = some (.dT (kvsA (fun _ => p0) (([(st0 ws, (1, []))] : TbL).map (·.1)))) := upd_same
  have p5 : (upd H4 d (.dT [(kN (st0 ws), .ref p0)])) p0 = some (.lst [V.int 1, .ref t0]) := by rw [upd_ne pd]; exact p4
  have t5 := i5 t0 (.tup []) trivial t4
  generalize upd H4 d (.dT [(kN (st0 ws), .ref p0)]) = H5 at s5 i5 d5 p5 t5 ⊢
  refine ⟨Nat.zero_le _, fun cl ncl => ⟨_, _, _, rfl, ?_⟩⟩
  have s6 := same_new (o := .lst []) ncl
  have ncl0 := same_none s5 ncl
  have c6 : (upd H5 cl (.lst [])) cl = some (.lst (NL [])) := upd_same
  have d6 := s6 _ _ d5
  have p6 := s6 _ _ p5
  have t6 := s6 _ _ t5
  have s06 := s5.trans s6
  generalize upd H5 cl (.lst []) = H6 at s6 c6 d6 p6 t6 s06 ⊢
  -- whole
  refine ⟨_, rfl, wa, wvs, .L, rfl, SqL.of (s06 _ _ hwa), ?_⟩
  intro D nD
  refine lc_map nD (iw_seq (k := .L) (p := 12)) (fun _ => rfl) (by omega) (fun H2 s2 => SqL.of (s2 _ _ (s06 _ _ hwa))) (fun i _ y => y = nV ((whole ws).getD i 0)) (fun _ _ _ _ _ h => h) (fun i H7 hi s7 Qk hk => ?_) (fun H7 ys s7 e7 l7 r7 => ?_)
  · obtain ⟨u, hu⟩ := lt_get (xs := wvs) (i := i) hi
    obtain ⟨wd, hwd, p, rfl, hp2⟩ := Paired.get' hwp hu
    rw [get_getD hu]
    have ew : (whole ws).getD i 0 = wd.length := by
      unfold whole
      rw [List.getD_eq_getElem?_getD, List.getElem?_map, hwd]
      rfl
    rw [ew] at hk
    refine ⟨_, rfl, p, NL wd, rfl, .inl (SqL.of (s7 _ _ (s06 _ _ hp2))), ?_⟩
    rw [nl_len]
    exact hk _ _ (Same.refl _) rfl
  have wl : (whole ws).length = ws.length := by unfold whole; simp
  have ey : ys = NL (whole ws) := by
    apply List.ext_getElem
    · rw [nl_len, l7, hwl, wl]
    · intro i h1 h2
      rw [r7 i ys[i] (by simp [h1])]
      have h3 : i < (whole ws).length := by omega
      have e5 := nl_get (ns := whole ws) (i := i) (n := (whole ws)[i]) (by simp [h3])
      rw [List.getElem?_eq_getElem h2] at e5
      rw [Option.some.inj e5, List.getD_eq_getElem?_getD, List.getElem?_eq_getElem h3]
      rfl
  rw [ey] at e7
  refine kTup_new e7 fun wh H8 s8 e8 => ?_
  have s68 := s7.trans s8
  have s08 := s06.trans s68
  have TH : TabH H8 H (fun _ => p0) ([(st0 ws, (1, []))] : TbL) := by
    refine ⟨fun t ht => ?_, fun t ht u hu _ => ?_, fun t ht => ?_⟩
    · cases List.mem_singleton.mp ht
      exact ⟨.ref t0, s68 _ _ p6, t0, rfl, s68 _ _ t6⟩
    · cases List.mem_singleton.mp ht
      cases List.mem_singleton.mp hu
      rfl
    · exact np0'
  have TW : TabW ws c 0 ([(st0 ws, (1, []))] : TbL) := Mt.tab_start
  refine ⟨_, rfl, _, _, rfl, rfl, _, rfl, by omega, by omega, ?_⟩
  rw [show ((n : Int) + 1).toNat = n + 1 by omega]
  refine for_go (iw_range (p := 7)) (fun m σ H' => ∃ e bv x7 x8 x9 x10 x11 x12 x13 ad T, σ = [some (.ref wa), some (nV c), some (nV n), some (.ref e), some (.ref cl), some bv, some (.ref wh), x7, x8, x9, x10, x11, x12, x13] ∧ Same H H' ∧ H' e = some (.dT (kvsA ad (T.map (·.1)))) ∧ TabH H' H ad T ∧ TabW ws c m T ∧ H' cl = some (.lst (NL ((List.range m).map (cntW ws c)))) ∧ H' wh = some (.tup (NL (whole ws))) ∧ BestAt ws c m H' bv ())
    ⟨d, .non, _, _, _, _, _, _, _, _, _, rfl, s08, s68 _ _ d6, TH, TW, s68 _ _ c6, e8, .inl ⟨rfl, fun v _ hv => by omega⟩⟩ (fun _ _ _ _ _ => trivial) (fun m σ H9 H10 hm ⟨e, bv, x7, x8, x9, x10, x11, x12, x13, ad, T, eσ, s9, d9, TH9, TW9, c9, w9, B9⟩ s10 => ?_) (fun σ H9 ⟨e, bv, x7, x8, x9, x10, x11, x12, x13, ad, T, eσ, s9, d9, TH9, TW9, c9, w9, B9⟩ => ?_)
  · subst eσ
    refine most_turn1 (K := K) (n := n) h4 h3 hc (by omega : m ≤ 100) (s9.trans s10) hws (s10 _ _ d9) (TH9.same s10) TW9 (s10 _ _ c9) ncl0 (by simp; omega) (s10 _ _ w9) (B9.mono (smi s10)) fun e' bv' x8 x9 x10 x11 x12 x13 H' ad' T' sH eH TH' TW' cH wH BH => ?_
    refine ⟨e', bv', _, _, _, _, _, _, _, ad', T', rfl, sH, eH, TH', TW', ?_, wH, BH⟩
    rw [cH, List.range_succ, List.map_append]
    rfl
  · subst eσ
    refine ⟨_, rfl, _, rfl, (by show 2 ≤ sizeLine; decide), fun a na => ?_⟩
    have s10 := same_new (o := .lst [.ref cl, bv]) na
    exact q a cl bv _ (s9.trans s10) upd_same (s10 _ _ c9) ncl0 (B9.mono (smi s10))
end
end K24
set_option Elab.async false
set_option linter.all false
set_option maxRecDepth 100000
set_option maxHeartbeats 4000000
/-! Refused: its class, its __init__ with super(). -/
namespace K24
open PySem PySem.Spec PySem.W PySem.Calls PyProof.Rows PySem.HandSPX
abbrev s_Ref : Stmt := L2.inClass (top 8) 0
def rfB : List Stmt := [
  .Expr (.Call (.Attribute (.Call (.Name "super" ⟨37, 8, 37, 13⟩) [] [] ⟨37, 8, 37, 15⟩) "__init__" ⟨37, 8, 37, 24⟩) [.Constant (.str "refused") 0 ⟨37, 25, 37, 34⟩] [] ⟨37, 8, 37, 35⟩) ⟨37, 8, 37, 35⟩,
  .Assign [.Attribute (.Name "self" ⟨38, 8, 38, 12⟩) "at" ⟨38, 8, 38, 15⟩] (.Name "at" ⟨38, 18, 38, 20⟩) ⟨38, 8, 38, 20⟩]
theorem rfB_eq : L2.defBody s_Ref = rfB := by
  unfold rfB
  rfl
def rfS : Scope := { kind := .function, names := [("self", .local), ("at", .local), ("__class__", .free), ("super", .globalImplicit)], isGenerator := false, isCoroutine := false, more := [] }
theorem rfS_eq : L2.defScope s_Ref = rfS := by rfl
def rfA : Arguments := L2.defArgs s_Ref
/-- what K tells of Refused at C, its base HE, its __init__ at fI with the cell cc, the code at cda -/
structure RfTxt (P : Program) (K : Frag) (mg : Str → Option Value) (C fI cc cda : Addr) : Prop where
  gC : mg "Refused" = some (.ref C)
  cls : ∃ nm q N bs HE sn sub ab col dd k0 k1 k2 k3 k5, K.lookup C = some (excClassObj nm q C N bs (.ref HE :: ESX.exTail) true sn sub ab col dd k0 k1 k2 k3 k5 "Exception.__new__") ∧ alongIn K "__init__" (.ref HE :: ESX.exTail) = some (some (.builtin "Exception.__init__"))
  sa : findIn K (.ref C) "__setattr__" = some (some (.builtin "object.__setattr__"))
  ga : findIn K (.ref C) "__getattribute__" = some (some (.builtin "BaseException.__getattribute__"))
  gg : findIn K (.ref C) "__getattr__" = some none
  noN : findIn K (.ref C) "at" = some none
  iC : findIn K (.ref C) "__init__" = some (some (.ref fI))
  tC : typeIn K (.ref fI) = some (.type "function")
  kC : keepIn K (.ref C) = true
  exC : subIn K (.ref C) (.type "BaseException") = some true
  exX : subIn K (.ref C) (.type "Exception") = some true
  tyC : typeIn K (.ref C) = some (.type "type")
  hdC : hasDictIn K C = true
  te : exmOne K (.ref C) (.ref C) = some true
  sC : mroIn K C (.ref C) = some true
  own : nsIn K cStatics "thirdparty.any" = some none
  sup : nsIn K mainGlobals "super" = some none
  cell : ∃ cl cld csl, K.lookup cc = some ⟨cl, cld, .cell (some (.ref C)), csl⟩
  code : ∃ ccl cdd vs ccs tf, K.lookup cda = some ⟨ccl, cdd, .fields vs, ccs⟩ ∧ vs[2]? = some (.str P.main.file tf)
  top : (P.main.scope.names.lookup ("super" : Str)).isSome = false
  fn : ∃ oc od doc pm an ct osl, K.lookup fI = some ⟨oc, od, .func (ksFn "__init__" "Refused.__init__" rfA rfB rfS .none .none doc pm an (.ref cda) ct cc), osl⟩ ∧ codeIn K (.ref cda) "Refused.__init__" = true
theorem one_size (v : Value) : [v].length ≤ sizeLine := by
  rw [sizeLine_eq]
  exact (by decide : 1 ≤ 16777216)
section
open Builtin Builtin.ObjectAttr
variable {prog : Program} {w : World} {A : Around} {E : Value → Shared → Prop} {R : Result → Shared → Prop} {hp : Heap} {g : Array GenState} {d : Drawn} {t : Nat} {os : OsState}
theorem rf_osa {K : W.Frag} {name : Str} {tk : Tok} {v : Value} {x C HE : Addr} {fv : Array Value} {cd : ClassData}
    (X : K.In hp) (hx : hp.get? x = some { cls := .ref C, data := .fields fv }) (hcd : W.clsIn K C = some cd) (hm : cd.mro = .ref C :: .ref HE :: ESX.exTail) (hh : cd.hasDict = true) (ha : W.findIn K (.ref C) name = some none)
    (hq : ∀ h' tk' dx, (∀ b o, b ≠ x → hp.get? b = some o → h'.get? b = some o) → hp.objs.size ≤ dx → dx ≠ x → h'.get? x = some { cls := .ref C, dict := some dx, data := .fields fv } →
      h'.Ns1 dx (fun y => if y = name then some v else none) → R (.ok (.ret .none)) ⟨h', g, d, tk', os⟩) :
    codeAny (model prog w) A (.call (.builtin "object.__setattr__") ⟨[.ref x, .str name tk, v], []⟩) R ⟨hp, g, d, t, os⟩ := by
  have I : W.InstAt hp x { cls := .ref C, data := .fields fv } C none := ⟨hx, rfl, rfl, trivial⟩
  have SF := F.store_object
  have hb : (Value.ref C :: Value.ref HE :: ESX.exTail).contains (.type "object") = true := by
    rw [List.contains_cons, List.contains_cons, show ESX.exTail.contains (.type "object") = true from by decide +kernel, Bool.or_true, Bool.or_true]
  have hxs : x ≠ hp.objs.size := Nat.ne_of_lt (Heap.lt_size hx)
  have sub : W.Looks (model prog w) hp (isInstance (.ref x) (.type "object")) true := I.type.andThen (W.looks_mroIn X (by
    unfold W.mroIn
    rw [hcd, Option.bind_some, hm, if_neg (show ¬ (List.isEmpty (Value.ref C :: Value.ref HE :: ESX.exTail) = true) from Bool.false_ne_true), hb]))
  refine codeAny_call_builtin SF.slot.plain SF.entry (@W.check_slot (model prog w) _ _ ⟨hp, g, d, t, os⟩ "object.__setattr__" "object" "__setattr__" (.ref x) [.str name tk, v] [] _ SF.kind SF.split sub (SF.args (.ref x) (.str name tk) v) ?_)
  have hmr : W.Looks (model prog w) hp (mroOf (.ref C)) cd.mro := (W.looks_clsIn X hcd).andThen .now
  have L3 : W.Looks (model prog w) hp (storeTaker? none) none := .now
  have hcls : W.Looks (model prog w) hp (classData C) cd := W.looks_clsIn X hcd
  have hpass : refuseLoop (.ref x) "__setattr__" cd.mro = pure () := by
    rw [hm, refuseLoop_ref, refuseLoop_ref]
    exact F.store_Exception.passes _
  rw [W.osa_eq, refuse_eq]
  refine wpAny_bind (wpAny_bind (I.type.at (wpAny_bind (hmr.at ?_))))
  rw [hpass]
  refine wpAny_pure (wpAny_bind (I.type.at (wpAny_bind ((W.looks_findIn X ha).at (wpAny_bind (L3.at ?_))))))
  show wpAny _ _ (storeInOwnDict (.ref x) (.ref C) (.str name tk) name v false) _ _ _
  obtain ⟨nm, bs, mro, ns, qn, hd, sn, sb, ab, col, del⟩ := cd
  dsimp only at hh
  subst hh
  unfold storeInOwnDict ownDictForStores
  repeat (first | with_reducible refine HandSPX.store_in_new ?_ ?_ | with_reducible refine wpAny_loadPart_at hx ?_ | with_reducible refine hcls.at ?_ | wp_step)
  · exact ⟨_, #[], _, (Heap.get?_update_ne _ _ _ _ hxs.symm).trans (Heap.get?_push_at rfl rfl), rfl, fun e he => absurd he (by simp), fun _ => rfl⟩
  · intro h' tk' hn' hs
    have hx₁ : (hp.push { cls := .type "dict", data := .dict #[] }).get? x = some { cls := .ref C, data := .fields fv } := Heap.get?_push_of_some _ hx
    refine hq h' tk' hp.objs.size (fun b o hb ho => ?_) (Nat.le_refl _) hxs.symm ?_ hn'
    · exact (hs.2 b (Nat.ne_of_lt (Heap.lt_size ho))).trans ((Heap.get?_update_ne _ _ _ _ hb).trans (Heap.get?_push_of_some _ ho))
    · exact (hs.2 x hxs).trans (Heap.get?_update_self _ hx₁ rfl)
end
/-- what __init__ leaves of a fresh exception at x -/
structure InitEnd (h h' : Heap) (x C dx t1 : Addr) (v : Value) : Prop where
  keep : ∀ b o, b ≠ x → h.get? b = some o → h'.get? b = some o
  obj : h'.get? x = some { cls := .ref C, dict := some dx, data := .fields #[.ref t1, .none, .none, .none, .bool false, .none] }
  dbig : h.objs.size ≤ dx
  dne : dx ≠ x
  ns : h'.Ns1 dx (fun y => if y = "at" then some v else none)
structure OwnMade (h h' : Heap) (e C d : Addr) (v : Value) : Prop where
  keep : ∀ b o, h.get? b = some o → h'.get? b = some o
  new : h.objs.size ≤ e
  obj : ∃ oe vs, h'.get? e = some oe ∧ oe.cls = .ref C ∧ oe.dict = some d ∧ oe.data = .fields vs ∧ vs[1]? = some .none
  dbig : h.objs.size ≤ d
  dne : d ≠ e
  ns : h'.Ns1 d (fun y => if y = "at" then some v else none)
section
variable {prog : Program} {w : World} {A : Around} {E : Value → Shared → Prop} {R : Result → Shared → Prop} {s : Shared} {K : Frag} {mg mb : Str → Option Value} {C fI cc cda : Addr}
theorem rf_init (T : RfTxt prog K mg C fI cc cda) {x t0 : Addr} {v : Value} (X : K.In s.heap) (hG : s.heap.Ns mainGlobals mg) (hB : s.heap.Ns builtinsNs mb) (hbs : mb "super" = some (.type "super")) (hlim : s.heap.NoLimit) (hx : s.heap.get? x = some (excO C t0)) (hnx : K.lookup x = none) (hroom : A.depth < recursionLimit)
    (hq : ∀ h' tk dx t1, InitEnd s.heap h' x C dx t1 v → R (.ok (.ret .none)) { s with heap := h', toks := tk }) :
    codeAny (model prog w) A (.call (.ref fI) ⟨[.ref x, v], []⟩) R s := by
  obtain ⟨oc, od, doc, pm, an, ct, osl, ho, hcd⟩ := T.fn
  obtain ⟨nm, q, N, bs, HE, sn, sub, ab, col, dd, k0, k1, k2, k3, k5, hC, hal⟩ := T.cls
  obtain ⟨cl, cld, csl, hcell⟩ := T.cell
  obtain ⟨ccl, cdd, vs, ccs, tf, hcode, hvs⟩ := T.code
  have hcl : clsIn K C = some { name := nm, bases := bs, mro := .ref C :: .ref HE :: ESX.exTail, ns := N, qualname := q, hasDict := true, slotNames := sn, subclasses := sub, abstract := ab, collection := col, hasDel := false } := by unfold clsIn; rw [hC] <;> rfl
  refine ks_codeAny_call_defAt (binds := [("self", .ref x), ("at", v)]) hroom (X _ _ ho) rfl hlim (codeRec_of X hcd) rfl (BindsTo.of_eq (by first | rfl | with_unfolding_all rfl)) (by show ∀ y ∈ rfS.names, y.2 ≠ .cell; decide) (by intro y hy; simp at hy; rcases hy with rfl | rfl <;> rfl) (fun h₁ hns k => ?_)
  have hxL : s.heap.objs.size ≠ x := Nat.ne_of_gt (Heap.lt_size hx)
  have X₁ : K.In h₁ := X.keeps k
  have hx₁ := k _ _ hx
  obtain ⟨hp, g, dr, tk, os⟩ := s
  -- super().__init__("refused")
  refine ks_wpAt_execs_cons (ks_wpAt_Expr_any (ks_wpAt_MethodCall ?_))
  refine ks_wpAt_super_base (f := fI) (cc := cda) (file := prog.main.file) (by rfl) (by rfl) (by decide) rfl (X₁ _ _ ho) rfl rfl rfl (X₁ _ _ hcode) rfl hvs (by exact beq_self_eq_true _) T.top ?_
  have hk0 : (callEnv (ksFn "__init__" "Refused.__init__" rfA rfB rfS .none .none doc pm an (.ref cda) ct cc) hp.objs.size fI).scope.kind = .function := rfl
  refine ks_loadName_global hk0 rfl (loadGlobal_builtin (hG.keeps k) (mg_none_of X hG T.sup) (hB.keeps k) hbs ⟨rfl, ?_⟩)
  refine wpAny_loadName_free hk0 rfl rfl ⟨_, X₁ _ _ hcell, rfl⟩ ?_
  refine wpAny_loadName_local hk0 rfl hns rfl ?_
  have hC₁ := X₁ _ _ hC
  refine ks_wpAny_isType_cls hC₁ rfl ⟨rfl, ?_⟩
  refine ks_wpAny_call_super hC₁ rfl hx₁ rfl (fun c e => by cases e) (looks_mroIn X₁ T.sC) (fun h₂ hso k₂ => ?_)
  have X₂ : K.In h₂ := X₁.keeps k₂
  have hx₂ := k₂ _ _ hx₁
  have hxC : x ≠ C := fun z => by rw [z] at hnx; rw [hnx] at hC; cases hC
  have I₂ : W.InstAt h₂ x (excO C t0) C none := ⟨hx₂, rfl, rfl, trivial⟩
  refine ESX.getMethod_super hso (looks_opaque X₂ T.own) (l₀ := .ref C :: .ref HE :: ESX.exTail) ((looks_clsIn X₂ hcl).andThen .now) (ESX.drop_own _ _) X₂ hal hxC (by decide) (I₂.type.andThen (looks_subIn X₂ T.exX)) ?_
  refine ESX.callWith_bound (x := x) ?_
  refine Calls.spliced_cons ?_
  refine wpAny_Constant_str (k := 0) (pos := ⟨37, 25, 37, 34⟩) (Calls.spliced_nil ⟨Heap.get?_push_size _ rfl, ?_⟩)
  have k₃ : ∀ b o, h₂.get? b = some o → (h₂.push (ESX.bw x)).get? b = some o := fun b o e => Heap.get?_push_of_some _ e
  refine ESX.call_bw (k₃ _ _ (k₂ _ _ hC₁)) (k₃ _ _ hx₂) (Heap.get?_push_size _ rfl) (one_size _) (fun h₄ t1 k₄ hx₄ => ?_)
  show PySem.wpAt _ _ _ (execs _ _) _ _ _
  obtain ⟨oL, es, ep, hL, r⟩ := hns
  have kk : ∀ b o, b ≠ x → h₁.get? b = some o → h₄.get? b = some o := fun b o hb e => k₄ b o hb (k₃ b o (k₂ b o e))
  have hn₄ : h₄.Ns hp.objs.size (fun y => ([("self", Value.ref x), ("at", v)] : List (Str × Value)).reverse.lookup y) := ⟨oL, es, ep, kk _ _ hxL hL, r⟩
  have X₄ : K.In h₄ := fun a o e => kk a o (fun z => by rw [z, hnx] at e; cases e) (X₁ a o e)
  -- self.at = at
  refine wpAt_of_wpAny (wpAny_execs_cons (plainObj_wpAny_Assign_Attribute ?_))
  refine wpAny_Name (wpAny_loadName_local hk0 rfl hn₄ (v := v) rfl ?_) (by decide)
  refine wpAny_Name (wpAny_loadName_local hk0 rfl hn₄ (v := .ref x) rfl ?_) (by decide)
  refine set_plain X₄ (ox := excO C t1) (od := none) ⟨hx₄, rfl, rfl, trivial⟩ T.sa ?_
  refine rf_osa X₄ hx₄ hcl rfl rfl T.noN (fun h₅ tk₅ dx k₅ dn dne hx₅ hn₅ => ?_)
  show wpAny _ _ (execs _ _) _ _ _
  refine wpAny_execs_nil ?_
  have z1 : hp.objs.size < h₄.objs.size := Heap.lt_size (kk _ _ hxL hL)
  exact hq h₅ tk₅ dx t1 ⟨fun b o hb e => k₅ b o hb (kk b o hb (k b o e)), hx₅, Nat.le_trans (Nat.le_of_lt z1) dn, dne, hn₅⟩
theorem rf_made (T : RfTxt prog K mg C fI cc cda) {v : Value} (X : K.In s.heap) (hG : s.heap.Ns mainGlobals mg) (hB : s.heap.Ns builtinsNs mb) (hbs : mb "super" = some (.type "super")) (hlim : s.heap.NoLimit) (hroom : A.depth + 1 < recursionLimit)
    (hq : ∀ h' tk e d, OwnMade s.heap h' e C d v → R (.ok (.ret (.ref e))) { s with heap := h', toks := tk }) :
    codeAny (model prog w) A (.call (.ref C) ⟨[v], []⟩) R s := by
  obtain ⟨nm, q, N, bs, HE, sn, sub, ab, col, dd, k0, k1, k2, k3, k5, hC, hal⟩ := T.cls
  obtain ⟨hp, g, dr, tk, os⟩ := s
  have k : ∀ b o, hp.get? b = some o → ((hp.push (kdv_tup [v])).push (excO C hp.objs.size)).get? b = some o := fun b o e => Heap.get?_push_of_some _ (Heap.get?_push_of_some _ e)
  have hget : ((hp.push (kdv_tup [v])).push (excO C hp.objs.size)).get? (hp.objs.size + 1) = some (excO C hp.objs.size) := by heap_get
  have hnx : K.lookup (hp.objs.size + 1) = none := by
    cases e : K.lookup (hp.objs.size + 1) with
    | none => rfl
    | some o =>
      have z : hp.get? (hp.objs.size + 1) = some o := X _ _ e
      exact absurd (Nat.lt_of_succ_lt (Heap.lt_size z)) (Nat.lt_irrefl _)
  refine call_own F.excBase_Exception (fun X => by rw [List.contains_cons]; rfl) (X _ _ hC) (looks_findIn X T.iC) (fun self => bind_fn X self T.tC) (one_size v) ?_
  refine rf_init (s := ⟨(hp.push (kdv_tup [v])).push (excO C hp.objs.size), g, dr, tk, os⟩) T (X.keeps k) (hG.keeps k) (hB.keeps k) hbs (hlim.keeps k) hget hnx ?_ fun h' tk' dx t1 ⟨k', hx, dn, dne, hns⟩ => ?_
  · show A.depth + 1 < recursionLimit
    exact hroom
  · have old : ∀ b o, hp.get? b = some o → h'.get? b = some o := fun b o e => k' b o (Nat.ne_of_lt (Nat.lt_succ_of_lt (Heap.lt_size e))) (k b o e)
    have z : hp.objs.size + 1 + 1 ≤ dx := by
      first
        | (simpa only [Heap.size_push] using dn)
        | exact dn
        | (have q := dn; rw [Heap.size_push, Heap.size_push] at q; exact q)
    exact ⟨rfl, hq h' tk' (hp.objs.size + 1) dx ⟨old, Nat.le_succ _, ⟨_, _, hx, rfl, rfl, rfl, rfl⟩, Nat.le_trans (Nat.le_trans (Nat.le_succ _) (Nat.le_succ _)) z, dne, hns⟩⟩
end
end K24
set_option Elab.async false
set_option linter.all false
set_option maxRecDepth 100000
set_option maxHeartbeats 4000000
/-! Refused raised, its field read. -/
namespace K24
open PySem PySem.Spec PyProof.Rows L2
theorem relO_at {v : V} {v' : Value} (r : RelV v v') (f : Str) : RelO (List.lookup f [(("at" : Str), v)]) (if f = "at" then some v' else none) := by
  by_cases hw : f = "at"
  · subst hw
    rw [if_pos rfl]
    have q : List.lookup ("at" : Str) [(("at" : Str), v)] = some v := by simp [List.lookup]
    rw [q]
    exact r
  · rw [if_neg hw]
    have qw : (f == ("at" : Str)) = false := by simpa using hw
    have q2 : List.lookup f [(("at" : Str), v)] = none := by simp [List.lookup, qw]
    rw [q2]
    trivial
section
variable {X : Cx} {C fI cc cda : Addr}
/-- Refused(e) -/
def tMkRf (C : Addr) (ta : TA) : L2.St → Hp → XK → Prop := fun σ H Q => ta σ H fun vs H1 => ∃ v, vs = [v] ∧ ∀ d, H1 d = none → Q (.ref C) (some d) (upd H1 d (.xd [(("at" : Str), v)]))
theorem pmk_rf {a : Expr} {ta : TA} {p pos : Pos} {k : Nat} (T : RfTxt X.prog X.K X.mg C fI cc cda) (hr : Room k X.A) (ha : PA X [a] ta) (hg : Gl X "Refused" := by rfl)
    (he : starEach (a :: []) X.env = (false, eval a X.env) :: starEach [] X.env := by rfl) (hpl : (backTo pos (starEach [] X.env)).any (·.1) = false := by rfl) :
    PMk X (.Call (.Name "Refused" p) [a] [] pos) (tMkRf C ta) := by
  intro pins s σ H Q I h
  refine wpAny_Call_Name_kw (ld_glob I hg T.gC ?_)
  refine PySem.W.callWith_K (h₀ := X.base) I.ok.mod.kin T.kC (thn (ha.run pos pins s σ H _ I h) fun us s1 hh => ?_) he hpl
  obtain ⟨vs, H1, I1, r1, v, ev, q1⟩ := hh
  subst ev
  refine ⟨I1.kIn, ?_⟩
  cases r1 with
  | cons rv rn =>
    rename_i v' us'
    cases rn
    show wpAny _ _ (call (.ref C) [v']) _ _ _
    have hlim := I1.nolimit
    obtain ⟨mb, hb1, hb2⟩ := I1.ok.mod.blt
    have hG : s1.heap.Ns mainGlobals X.mg := I1.mod.glob.keeps I1.bk
    have hB : s1.heap.Ns builtinsNs mb := hb1.keeps I1.bk
    obtain ⟨hp, g, dr, tk, os⟩ := s1
    refine wpAny_call (rf_made T I1.kIn hG hB ((hb2 _ (by decide)).trans (by decide +kernel)) hlim (by have := hr.dp; omega) fun h' tk' e d M => ?_)
    show MkP X pins σ Q (.ref e) ⟨h', g, dr, tk', os⟩
    obtain ⟨oe, fv, hoe, hc, hd, hdat, h1⟩ := M.obj
    have hns := M.ns
    obtain ⟨G', g1, g2⟩ := restrict h' fun b => decide (b ≠ e)
    have gk : ∀ b, b ≠ e → G'.get? b = h'.get? b := fun b hb => g1 b (decide_eq_true hb)
    have ge : G'.get? e = none := g2 e (by simp)
    have old : ∀ b o, hp.get? b = some o → G'.get? b = some o := fun b o q => (gk b (Nat.ne_of_lt (Nat.lt_of_lt_of_le (Heap.lt_size q) M.new))).trans (M.keep b o q)
    have ob : ObjOk X.prog X.w (upd H1 d (.xd [(("at" : Str), v)])) G' d (.xd [(("at" : Str), v)]) :=
      ⟨_, hns.at (fun o q => (gk d M.dne).trans q), fun f => relO_at rv f⟩
    have J : Inv X pins σ (upd H1 d (.xd [(("at" : Str), v)])) ⟨G', g, dr, tk', os⟩ := I1.laid (t' := tk') old M.dbig ob
    refine ⟨e, oe, fv, ⟨G', g, dr, tk', os⟩, _, .ref C, some d, rfl, J, fun b o q => ?_, ge, hoe, ⟨hc, hd⟩, hdat, h1, ?_, rfl, I1.bare, raises_own T.exC T.tyC, q1 d (I1.hok.fresh M.dbig)⟩
    · by_cases hb : b = e
      · have q' : G'.get? b = some o := q
        rw [hb, ge] at q'; cases q'
      · exact (gk b hb).symm.trans q
    · rw [upd_ne (Ne.symm M.dne)]
      exact I1.hok.fresh M.new
/-- raise Refused(e) -/
def tRaiseRf (C : Addr) (W : WX) (ta : TA) : TS := fun _ σ H => tMkRf C ta σ H fun cls d H' => W cls d σ H'
theorem ps_raiseRf {a : Expr} {ta : TA} {W : WX} {p pos pos2 : Pos} {k : Nat} (hc : X.calm = true) (T : RfTxt X.prog X.K X.mg C fI cc cda) (hr : Room k X.A) (tk : Takes X W) (ha : PA X [a] ta) (hg : Gl X "Refused" := by rfl)
    (he : starEach (a :: []) X.env = (false, eval a X.env) :: starEach [] X.env := by rfl) (hpl : (backTo pos (starEach [] X.env)).any (·.1) = false := by rfl) :
    PS X (.Raise (some (.Call (.Name "Refused" p) [a] [] pos)) none pos2) (tRaiseRf C W ta) := ps_raise hc tk (pmk_rf T hr ha hg he hpl)
/-- e.at, e the exception that the suite holds (at a; its class cls, its dict d) -/
def tAtRf (C : Addr) (a : Addr) (cls : Value) (d : Option Addr) (te : TE) : TE := fun σ H Q => te σ H fun x H1 => x = .ref a ∧ cls = .ref C ∧ ∃ (dd : Addr) (v : V), d = some dd ∧ H1 dd = some (.xd [(("at" : Str), v)]) ∧ Q v H1
theorem pe_atRf {a : Addr} {oe : Obj} {cls : Value} {d : Option Addr} {pn : List (Addr × Obj)} {e : Expr} {te : TE} {pos : Pos} (T : RfTxt X.prog X.K X.mg C fI cc cda) (hz : Zc cls d oe) (hf : ∃ vs, oe.data = .fields vs) (he : PE (X.suite a ((a, oe) :: pn)) e te)
    (hb : attributeBase e "at" X.env (eval e X.env) = eval e X.env := by rfl) :
    PE (X.suite a ((a, oe) :: pn)) (.Attribute e "at" pos) (tAtRf C a cls d te) := by
  refine ⟨fun pins s σ H Q I h => ?_⟩
  refine attr_of hb (thn (he.run pins s σ H _ I h) fun u s1 hh => ?_)
  obtain ⟨x, H1, I1, rx, ex, ec, dd, v, ed, ea, q⟩ := hh
  subst ex
  obtain rfl : u = Value.ref a := rx
  subst ec
  subst ed
  obtain ⟨ha, _⟩ := I1.pin (a, oe) (List.mem_append_left _ List.mem_cons_self)
  obtain ⟨vs, hd⟩ := hf
  have hx : ObjOk X.prog X.w H1 s1.heap dd (.xd [(("at" : Str), v)]) := I1.hok dd _ ea
  obtain ⟨mA, hns, hr⟩ := hx
  obtain ⟨od, ho, hl⟩ := lookIn_ns hns
  have l : List.lookup ("at" : Str) [(("at" : Str), v)] = some v := by simp [List.lookup]
  obtain ⟨u, hu, ru⟩ := RelO.some_of (v := v) (o := mA "at") (by rw [← l]; exact hr "at")
  have J : PySem.W.InstAt s1.heap a oe C (some od) := ⟨ha, hz.1, by unfold PySem.W.notCls; rw [hd] <;> rfl, by rw [hz.2]; exact ho⟩
  exact HandSPX.exc_get I1.kIn J T.ga T.gg T.exC (PySem.W.findObj_own T.hdC T.noN rfl (by rw [hl, hu])) (handed_of ru) ⟨v, H1, I1.tok _, ru, q⟩
end
end K24
set_option Elab.async false
set_option linter.all false
set_option maxRecDepth 100000
set_option maxHeartbeats 4000000
namespace K24
open PySem PySem.Spec PyProof.Rows L2
def t_superwordX (P : Program) (w : World) (K : PySem.W.Frag) (sp_Houseinit : Sp) (sp_is_sequence : Sp) (sp_is_number : Sp) (E : XK) : TS := (tSeq (tIfS (tNot (tB (tCall sp_is_sequence [] E0 (tCons (tVar 1) tNil)))) (tRaiseRf (cR K) (fun cls d _ H => E cls d H) (tCons (tUn (rU fun i => .int (-i)) (tC (.int 1))) tNil)) tNext)
  (tSeq (tAsg (tTup (tCons (tOp rRep (tLst (tCons (tC (.int 0)) tNil)) (tVar 0)) (tCons (tLst (tCons (tOp (rRepT1 K) (tTup (tCons (tC (.int 0)) tNil)) (tVar 0)) tNil)) (tCons (tLst tNil) tNil)))) (gTup K 3 (gCons (gName 2) (gCons (gName 3) (gCons (gName 4) gNil)))))
  (tSeq (tFor (iEnK K (tCons (tVar 1) tNil)) (gTup K 2 (gCons (gName 5) (gCons (gName 6) gNil))) (tSeq (tIfS (tOr (tNot (tB (tCall sp_is_sequence [] E0 (tCons (tVar 6) tNil)))) (tOr (tNot (tTru K (tVar 6))) (tNot (tB (tCB (rAll K) (tCons (tLc (iSeq K (tVar 6)) (gName 12) tYes (tAndV (tCall sp_is_number [] E0 (tCons (tVar 12) tNil)) (tOp (rI0 fun i j => .bl (decide (i < j))) (tVar 12) (tVar 0))) [12]) tNil)))))) (tRaiseRf (cR K) (fun cls d _ H => E cls d H) (tCons (tVar 5) tNil)) tNext)
  (tSeq (tIfS (tB (tCB (rAny K) (tCons (tLc (iRng1 (tCons (tOp (rI0 fun i j => .int (i - j)) (tCB (rLn K) (tCons (tVar 6) tNil)) (tC (.int 1))) tNil)) (gName 7) tYes (tOp rEq (tOp (rIxL K) (tVar 6) (tVar 7)) (tOp (rIxL K) (tVar 6) (tOp (rI0 fun i j => .int (i + j)) (tVar 7) (tC (.int 1))))) [7]) tNil))) (tRaiseRf (cR K) (fun cls d _ H => E cls d H) (tCons (tVar 5) tNil)) tNext)
  (tFor (iEnK K (tCons (tVar 6) tNil)) (gTup K 2 (gCons (gName 7) (gCons (gName 8) gNil))) (tSeq (tAsg (tOp (rI0 fun i j => .int (i + j)) (tOp (rIxL K) (tVar 2) (tVar 8)) (tC (.int 1))) (gSub (tVar 2) (tVar 8) rSetL))
  (tSeq (tIfS (tTest (tOp (rI0 fun i j => .bl (decide (j < i))) (tOp (rIxL K) (tVar 2) (tVar 8)) (tC (.int 5)))) (tRaiseRf (cR K) (fun cls d _ H => E cls d H) (tCons (tVar 5) tNil)) tNext)
  (tSeq (tDrop (tBM K "list" rAppend (tVar 3) (tCons (tThen (tLc (iRng1 (tCons (tVar 0) tNil)) (gName 12) tYes (tIf (tTest (tOp rEq (tVar 12) (tVar 8))) (tOp (rIxL K) (tVar 2) (tVar 8)) (tC (.int 0))) [12]) (kTup K)) tNil)))
  (tIfS (tTest (tOp (rI0 fun i j => .bl (decide (j < i))) (tVar 7) (tC (.int 0)))) (tDrop (tBM K "list" rAppend (tVar 4) (tCons (tTup (tCons (tOp (rIxL K) (tVar 3) (tUn (rU fun i => .int (-i)) (tC (.int 2)))) (tCons (tOp (rIxL K) (tVar 3) (tUn (rU fun i => .int (-i)) (tC (.int 1)))) tNil))) tNil))) tNext))))))))
  (tSeq (tAsg (tCo (fun _ => .dT []) (iEnK K (tCons (tCB (rSortTA K) (tCons (tVar 3) tNil)) tNil)) (gTup K 2 (gCons (gName 5) (gCons (gName 13) gNil))) tYes (addT (tVar 13) (tVar 5)) [5, 13]) (gName 9))
  (tSeq (tAsg (tLc (iSeq K (tVar 4)) (gTup K 2 (gCons (gName 14) (gCons (gName 15) gNil))) tYes (tTup (tCons (tDGet (tVar 9) (tVar 14)) (tCons (tDGet (tVar 9) (tVar 15)) tNil))) [14, 15]) (gName 10))
  (tSeq (tAsg (tMake (cH K) sp_Houseinit [] E0 (tCons (tLc (iSeq K (tVar 2)) (gName 12) tYes (tOp (rI0 fun i j => .int (i + j)) (tVar 12) (tC (.int 1))) [12]) (tCons (tVar 3) (tCons (tVar 10) tNil)))) (gName 11))
  (tRet (tTup (tCons (tVar 11) (tCons (tOp (rCatA K) (tTup (tCons (tC (.int 0)) tNil)) (tOp (rRepT1 K) (tTup (tCons (tC (.int 1)) tNil)) (tOp (rI0 fun i j => .int (i - j)) (tCB (rLn K) (tCons (tVar 3) tNil)) (tC (.int 1))))) tNil))))))))))
theorem dv_superwordX {P : Program} {w : World} {K : PySem.W.Frag} {mg : Str → Option Value} {base : Heap} {fI cc cda : Addr} (G : Gs K mg) (T : RfTxt P K mg (cR K) fI cc cda) {sp_Houseinit : Sp} {sp_is_sequence : Sp} {sp_is_number : Sp} (C_Houseinit : C8.Mak P w K mg base 5 "House" (cH K) sp_Houseinit []) (C_is_sequence : C8.Cal P w K mg base 1 "is_sequence" sp_is_sequence []) (C_is_number : C8.Cal P w K mg base 2 "is_number" sp_is_number []) {cdv : Value} {A : Around} {outer : List Env} {s : Shared} {H : Hp} {E : XK} {f : Addr} (hr : Room 6 (A.deeper (envOfC "superword_house" (defScope s_superword_house) s.heap.objs.size f cdv))) :
    PSs (cxOf (L2.CX P w) P w K mg base N_superword_house "superword_house" (defScope s_superword_house) f cdv A outer s H E) (defBody s_superword_house) (t_superwordX P w K sp_Houseinit sp_is_sequence sp_is_number E) := by
  have hu := hu_of hr
  have hu3 := hu2' hr
  have hu4 := hu64 hr
  have hu5 := hu65 hr
  exact (pss_cons (ps_if (pt_not (pt_val (C8.pe_c C_is_sequence hr (by decide) (by rfl) (pa_cons (pv 1) pa_nil)))) (pss_one (ps_raiseRf (by rfl) T hr (takes_of (by rfl) (by rfl) (by rfl) (by rfl)) (by exact (pa_cons (pe_un un_neg pe_int) pa_nil)))) pss_nil)
      (pss_cons (ps_asg (pe_tup (pa_cons (pe_op op_rep (pe_lst (pa_cons pe_int pa_nil)) (pv 0)) (pa_cons (pe_lst (pa_cons (pe_op op_repT1 (pe_tup (pa_cons pe_int pa_nil)) (pv 0)) pa_nil)) (pa_cons (pe_lst pa_nil) pa_nil)))) (pg_tup (by rfl) (pgs_cons (pg_name (i := 2) sc_superword_house.nd (by rfl) (by exact .inr rfl) (hf := by exact .inl rfl)) (pgs_cons (pg_name (i := 3) sc_superword_house.nd (by rfl) (by exact .inl rfl) (hf := by exact .inl rfl)) (pgs_cons (pg_name (i := 4) sc_superword_house.nd (by rfl) (by exact .inl rfl) (hf := by exact .inl rfl)) pgs_nil)))))
      (pss_cons (ps_for (passes_of (by rfl)) (by rfl) (pi_enumK (by rfl) G.m_enumerate (pa_cons (pv 1) pa_nil)) (pg_tup (by rfl) (pgs_cons (pg_name (i := 5) sc_superword_house.nd (by rfl) (by exact .inl rfl) (hf := by exact .inl rfl)) (pgs_cons (pg_name (i := 6) sc_superword_house.nd (by rfl) (by exact .inr rfl) (hf := by exact .inl rfl)) pgs_nil))) (pss_cons (ps_if (PW.pt (pw_or (pt_not (pt_val (C8.pe_c C_is_sequence hr (by decide) (by rfl) (pa_cons (pv 6) pa_nil)))) (pw_or (pt_not (pt_truth (pv 6) (by intro _; rfl))) (pw_or1 (pt_not (pt_val (pe_callB (cr_all (by rfl)) (by rfl) G.m_all PyProof.Rows.boot_all (pa_cons (pe_lc (own := [("one", 12)]) (g := (gName 12)) (tt := tYes) (te := (tAndV (tCall sp_is_number [] E0 (tCons (tVar 12) tNil)) (tOp (rI0 fun i j => .bl (decide (i < j))) (tVar 12) (tVar 0)))) (by rfl) sc_superword_house.nd (pi_seq (pv 6)) (blkOk_by (N := N_superword_house) (sc := defScope s_superword_house) (by decide +kernel)) (fun _ _ _ _ _ => (pg_name (i := 12) sc_superword_house.nd (by rfl) (by exact .inl rfl) (hf := by exact .inr rfl))) (fun _ _ _ _ _ => pts_nil) (fun _ _ _ _ _ => (pe_and (C8.pe_c C_is_number hr (by decide) (by rfl) (pa_cons (pv 12) pa_nil)) (pe_one (pe_cmpR op_lt (pv 12) (pv 0) (nomark _)))))) pa_nil)))))))) (pss_one (ps_raiseRf (by rfl) T hr (takes_of (by rfl) (by rfl) (by rfl) (by rfl)) (by exact (pa_cons (pv 5) pa_nil)))) pss_nil)
      (pss_cons (ps_if (pt_val (pe_callB (cr_any (by rfl)) (by rfl) G.m_any PyProof.Rows.boot_any (pa_cons (pe_lc (own := [("i", 7)]) (g := (gName 7)) (tt := tYes) (te := (tOp rEq (tOp (rIxL K) (tVar 6) (tVar 7)) (tOp (rIxL K) (tVar 6) (tOp (rI0 fun i j => .int (i + j)) (tVar 7) (tC (.int 1)))))) (by rfl) sc_superword_house.nd (pi_range1 (by rfl) G.m_range (pa_cons (pe_op op_sub (pe_callB (r := rLn K) call_len_seq (by rfl) G.m_len PySem.boot_len (pa_cons (pv 6) pa_nil)) pe_int) pa_nil)) (blkOk_by (N := N_superword_house) (sc := defScope s_superword_house) (by decide +kernel)) (fun _ _ _ _ _ => (pg_name (i := 7) sc_superword_house.nd (by rfl) (by exact .inl rfl) (hf := by exact .inr rfl))) (fun _ _ _ _ _ => pts_nil) (fun _ _ _ _ _ => (pe_cmpR op_eq (pe_ix ix_list (pv 6) (pv 7) (by exact fun _ _ => rfl)) (pe_ix ix_list (pv 6) (pe_op op_add (pv 7) pe_int) (by exact fun _ _ => rfl)) (nomark _)))) pa_nil))) (pss_one (ps_raiseRf (by rfl) T hr (takes_of (by rfl) (by rfl) (by rfl) (by rfl)) (by exact (pa_cons (pv 5) pa_nil)))) pss_nil)
      (pss_one (ps_for (passes_of (by rfl)) (by rfl) (pi_enumK (by rfl) G.m_enumerate (pa_cons (pv 6) pa_nil)) (pg_tup (by rfl) (pgs_cons (pg_name (i := 7) sc_superword_house.nd (by rfl) (by exact .inl rfl) (hf := by exact .inl rfl)) (pgs_cons (pg_name (i := 8) sc_superword_house.nd (by rfl) (by exact .inr rfl) (hf := by exact .inl rfl)) pgs_nil))) (pss_cons (ps_asg (pe_op op_add (pe_ix ix_list (pv 2) (pv 8) (by exact fun _ _ => rfl)) pe_int) (pg_sub (pv 2) (pv 8) set_list))
      (pss_cons (ps_if (pt_cmpR op_gt (pe_ix ix_list (pv 2) (pv 8) (by exact fun _ _ => rfl)) (pe_glob (v := .int 5) (by rfl) G.c_MOST_TIMES.choose_spec (by exact ⟨_, rfl⟩)) (nomark _)) (pss_one (ps_raiseRf (by rfl) T hr (takes_of (by rfl) (by rfl) (by rfl) (by rfl)) (by exact (pa_cons (pv 5) pa_nil)))) pss_nil)
      (pss_cons (ps_expr (pe_bm PySem.F.plainAttrs_list PySem.F.slot_list_append PySem.F.type_list_append mt_append (pv 3) (pa_cons (pe_tupleOf (by rfl) G.m_tuple (pe_lc (own := [("one", 12)]) (g := (gName 12)) (tt := tYes) (te := (tIf (tTest (tOp rEq (tVar 12) (tVar 8))) (tOp (rIxL K) (tVar 2) (tVar 8)) (tC (.int 0)))) (by rfl) sc_superword_house.nd (pi_range1 (by rfl) G.m_range (pa_cons (pv 0) pa_nil)) (blkOk_by (N := N_superword_house) (sc := defScope s_superword_house) (by decide +kernel)) (fun _ _ _ _ _ => (pg_name (i := 12) sc_superword_house.nd (by rfl) (by exact .inl rfl) (hf := by exact .inr rfl))) (fun _ _ _ _ _ => pts_nil) (fun _ _ _ _ _ => (pe_ifExp (pt_cmpR op_eq (pv 12) (pv 8) (nomark _)) (pe_ix ix_list (pv 2) (pv 8) (by exact fun _ _ => rfl)) pe_int)))) pa_nil)))
      (pss_one (ps_if (pt_cmpR op_gt (pv 7) pe_int (nomark _)) (pss_one (ps_expr (pe_bm PySem.F.plainAttrs_list PySem.F.slot_list_append PySem.F.type_list_append mt_append (pv 4) (pa_cons (pe_tup (pa_cons (pe_ix ix_list (pv 3) (pe_un un_neg pe_int) (by exact fun _ _ => rfl)) (pa_cons (pe_ix ix_list (pv 3) (pe_un un_neg pe_int) (by exact fun _ _ => rfl)) pa_nil))) pa_nil)))) pss_nil))))))))))
      (pss_cons (ps_set (i := 9) sc_superword_house.nd (by rfl) (by exact .inr rfl) (pe_dcT (own := [("at", 5), ("standing", 13)]) (g := (gTup K 2 (gCons (gName 5) (gCons (gName 13) gNil)))) (tt := tYes) (tk := (tVar 13)) (tv := (tVar 5)) hu (by rfl) sc_superword_house.nd (pi_enumK (by rfl) G.m_enumerate (pa_cons (pe_callB cr_sortTA (by rfl) G.m_sorted PyProof.Rows.boot_sorted (pa_cons (pv 3) pa_nil)) pa_nil)) (blkOk_by (N := N_superword_house) (sc := defScope s_superword_house) (by decide +kernel)) (fun _ _ _ _ _ => (pg_tup (by rfl) (pgs_cons (pg_name (i := 5) sc_superword_house.nd (by rfl) (by exact .inl rfl) (hf := by exact .inr rfl)) (pgs_cons (pg_name (i := 13) sc_superword_house.nd (by rfl) (by exact .inl rfl) (hf := by exact .inr rfl)) pgs_nil)))) (fun _ _ _ _ _ => pts_nil) (fun _ _ _ _ _ => (pv 13)) (fun _ _ _ _ _ => (pv 5))))
      (pss_cons (ps_setLc (own := [("start", 14), ("goal", 15)]) (i := 10) (g := (gTup K 2 (gCons (gName 14) (gCons (gName 15) gNil)))) (tt := tYes) (te := (tTup (tCons (tDGet (tVar 9) (tVar 14)) (tCons (tDGet (tVar 9) (tVar 15)) tNil)))) (by rfl) sc_superword_house.nd (by rfl) (by rfl) (sw_true (by rfl) (by rfl) (by rfl) (by decide +kernel)) (pi_seq (pv 4)) (blkOk_by (N := N_superword_house) (sc := defScope s_superword_house) (by decide +kernel)) (fun _ _ _ _ _ => (pg_tup (by rfl) (pgs_cons (pg_name (i := 14) sc_superword_house.nd (by rfl) (by exact .inl rfl) (hf := by exact .inr rfl)) (pgs_cons (pg_name (i := 15) sc_superword_house.nd (by rfl) (by exact .inl rfl) (hf := by exact .inr rfl)) pgs_nil)))) (fun _ _ _ _ _ => pts_nil) (fun _ _ _ _ _ => (pe_tup (pa_cons (pe_dget hu (pv 9) (pv 14) (by exact fun _ _ => rfl)) (pa_cons (pe_dget hu (pv 9) (pv 15) (by exact fun _ _ => rfl)) pa_nil)))))
      (pss_cons (ps_set (i := 11) sc_superword_house.nd (by rfl) (by exact .inl rfl) (C8.pe_mk C_Houseinit hr (by decide) (by rfl) (pa_cons (pe_lc (own := [("one", 12)]) (g := (gName 12)) (tt := tYes) (te := (tOp (rI0 fun i j => .int (i + j)) (tVar 12) (tC (.int 1)))) (by rfl) sc_superword_house.nd (pi_seq (pv 2)) (blkOk_by (N := N_superword_house) (sc := defScope s_superword_house) (by decide +kernel)) (fun _ _ _ _ _ => (pg_name (i := 12) sc_superword_house.nd (by rfl) (by exact .inl rfl) (hf := by exact .inr rfl))) (fun _ _ _ _ _ => pts_nil) (fun _ _ _ _ _ => (pe_op op_add (pv 12) pe_int))) (pa_cons (pv 3) (pa_cons (pv 10) pa_nil)))))
      (pss_one (ps_ret (pe_tup (pa_cons (pv 11) (pa_cons (pe_op op_catA (pe_tup (pa_cons pe_int pa_nil)) (pe_op op_repT1 (pe_tup (pa_cons pe_int pa_nil)) (pe_op op_sub (pe_callB (r := rLn K) call_len_seq (by rfl) G.m_len PySem.boot_len (pa_cons (pv 3) pa_nil)) pe_int))) pa_nil)))))))))))
end K24
set_option Elab.async false
set_option linter.all false
set_option maxRecDepth 100000
set_option maxHeartbeats 4000000
namespace K24
open PySem PySem.Spec PyProof.Rows L2
section
variable {P : Program} {w : World} {K : PySem.W.Frag} {mg : Str → Option Value}
def tBad (K : PySem.W.Frag) (E : XK) : TS := tRaiseRf (cR K) (fun cls d _ H => E cls d H) (tCons (tVar 5) tNil)
def EBad (K : PySem.W.Frag) (E : XK) (H0 : Hp) (at_ : Int) : Prop := ∀ d H', Same H0 H' → H' d = some (.xd [(("at" : Str), .int at_)]) → E (.ref (cR K)) (some d) H'
theorem raise5 {E : XK} {H0 H : Hp} {a : Int} {D : Ends} {σ : L2.St} (hE : EBad K E H0 a) (s : Same H0 H) (h : σ[5]? = some (some (.int a))) : tBad K E D σ H :=
  ⟨_, h, _, rfl, fun d nd => hE d _ (s.trans (same_new nd)) upd_same⟩
def StH (H0 : Hp) (c : Nat) (tm rw pr : Addr) (us ks : List Nat) (H' : Hp) : Prop := Same H0 H' ∧ H' tm = some (.lst (NL (timesU c 0 us))) ∧ (∃ rvs, H' rw = some (.lst rvs) ∧ Paired (TN H') rvs (rowsU c us)) ∧ ∃ pvs, H' pr = some (.lst pvs) ∧ Paired (LW H') pvs (pairsU c us ks)
def tLet (K : PySem.W.Frag) (E : XK) : TS := (tFor (iEnK K (tCons (tVar 6) tNil)) (gTup K 2 (gCons (gName 7) (gCons (gName 8) gNil))) (tSeq (tAsg (tOp (rI0 fun i j => .int (i + j)) (tOp (rIxL K) (tVar 2) (tVar 8)) (tC (.int 1))) (gSub (tVar 2) (tVar 8) rSetL))
  (tSeq (tIfS (tTest (tOp (rI0 fun i j => .bl (decide (j < i))) (tOp (rIxL K) (tVar 2) (tVar 8)) (tC (.int 5)))) (tBad K E) tNext)
  (tSeq (tDrop (tBM K "list" rAppend (tVar 3) (tCons (tThen (tLc (iRng1 (tCons (tVar 0) tNil)) (gName 12) tYes (tIf (tTest (tOp rEq (tVar 12) (tVar 8))) (tOp (rIxL K) (tVar 2) (tVar 8)) (tC (.int 0))) [12]) (kTup K)) tNil)))
  (tIfS (tTest (tOp (rI0 fun i j => .bl (decide (j < i))) (tVar 7) (tC (.int 0)))) (tDrop (tBM K "list" rAppend (tVar 4) (tCons (tTup (tCons (tOp (rIxL K) (tVar 3) (tUn (rU fun i => .int (-i)) (tC (.int 2)))) (tCons (tOp (rIxL K) (tVar 3) (tUn (rU fun i => .int (-i)) (tC (.int 1)))) tNil))) tNil))) tNext)))))
theorem atI_last2 {α : Type} {xs : List α} {m : Nat} {v : α} (h : xs[m]? = some v) (hl : xs.length = m + 2) : atI xs (-2) = some v := by
  have e : ixN xs.length (-2) = some m := by
    unfold ixN
    rw [if_neg (by omega), if_pos (by omega)]
    congr 1
    omega
  unfold atI
  rw [e]
  exact h
theorem sup_letters {D : Ends} {E : XK} {H0 H : Hp} {c : Nat} {U wd ks : List Nat} {tm rw' pr p : Addr} {wv : V} {x7 x8 : Option V} {at_ : Nat} (c4 : c ≤ 100) (hc : 2 ≤ c)
    (lt : ∀ x ∈ wd, x < c) (h12 : U.length ≤ 100) (w100 : wd.length ≤ 100) (hE : (∃ x, 5 < (U ++ wd).count x) → EBad K E H0 at_)
    (ntm : H0 tm = none) (nrw : H0 rw' = none) (npr : H0 pr = none) (d1 : tm ≠ rw') (d2 : tm ≠ pr) (d3 : rw' ≠ pr) (hp0 : H0 p = some (.lst (NL wd)))
    (klt : ∀ k ∈ ks, k + 1 < U.length) (kln : ks.length ≤ 100) (S0 : StH H0 c tm rw' pr U ks H)
    (q : ∀ x7 x8 H', StH H0 c tm rw' pr (U ++ wd) (ks ++ (List.range (wd.length - 1)).map fun j => U.length + j) H' → (∀ x ∈ wd, (U ++ wd).count x ≤ 5) → D.nx [some (nV c), some wv, some (.ref tm), some (.ref rw'), some (.ref pr), some (nV at_), some (.ref p), x7, x8, none, none, none, none, none, none, none] H') :
    tLet K E D [some (nV c), some wv, some (.ref tm), some (.ref rw'), some (.ref pr), some (nV at_), some (.ref p), x7, x8, none, none, none, none, none, none, none] H := by
  obtain ⟨s0, z0, ⟨rvs0, r0, rp0⟩, pvs0, p0, pp0⟩ := S0
  refine ⟨_, rfl, p, NL wd, .L, rfl, SqL.of (s0 _ _ hp0), ?_⟩
  refine for_go (iw_enum (p := 7) (q := 8)) (fun i σ H' => ∃ x7 x8, σ = [some (nV c), some wv, some (.ref tm), some (.ref rw'), some (.ref pr), some (nV at_), some (.ref p), x7, x8, none, none, none, none, none, none, none] ∧ StH H0 c tm rw' pr (U ++ wd.take i) (ks ++ (List.range (i - 1)).map fun j => U.length + j) H' ∧ ∀ x ∈ wd.take i, (U ++ wd.take i).count x ≤ 5)
    ⟨_, _, rfl, ⟨s0, by simpa using z0, ⟨rvs0, r0, by simpa using rp0⟩, pvs0, p0, by simpa using pp0⟩, fun x hx => by simp at hx⟩ (fun i σ H' _ ⟨_, _, _, ⟨s, _⟩, _⟩ => SqL.of (s _ _ hp0)) (fun i σ H9 H10 hi ⟨x7', x8', e, ⟨s9, z9, ⟨rvs', r9, rp9⟩, pvs', p9, pp9⟩, c5⟩ s910 => ?_) (fun σ H10 ⟨x7', x8', e, St10, c5⟩ => ?_)
  · subst e
    rw [nl_len] at hi
    rw [nl_getD hi]
    have s10 := s9.trans s910
    have z10 := s910 _ _ z9
    have r10 := s910 _ _ r9
    have p10 := s910 _ _ p9
    have rp10 : Paired (TN H10) rvs' _ := L2.Paired.mapP rp9 fun _ _ z => SamR.mono s910 z
    have pp10 : Paired (LW H10) pvs' _ := L2.Paired.mapP pp9 fun _ _ z => SamR.mono s910 z
    have hxc := lt wd[i] (List.getElem_mem hi)
    have tk1 : U ++ wd.take (i + 1) = (U ++ wd.take i) ++ [wd[i]] := by
      rw [List.take_succ, List.getElem?_eq_getElem hi, List.append_assoc]
      rfl
    have tk2 : wd.take (i + 1) = wd.take i ++ [wd[i]] := by
      rw [List.take_succ, List.getElem?_eq_getElem hi]
      rfl
    have hVl : (U ++ wd.take i).length = U.length + i := by rw [List.length_append, List.length_take]; omega
    have cnt_le : (U ++ wd.take (i + 1)).count wd[i] ≤ (U ++ wd).count wd[i] := by
      rw [List.count_append, List.count_append]
      have := List.Sublist.count_le wd[i] (List.take_sublist (i + 1) wd)
      omega
    rw [tk1] at cnt_le
    have c5' : ∀ x ∈ wd.take i, ((U ++ wd.take i) ++ [wd[i]]).count x ≤ 5 ∨ x = wd[i] := fun x hx => by
      by_cases z : x = wd[i]
      · exact .inr z
      · refine .inl ?_
        rw [List.count_append]
        have h1 := c5 x hx
        have h2 : [wd[i]].count x = 0 := by
          rw [List.count_singleton]
          simp [Ne.symm z]
        omega
    generalize hVs : U ++ wd.take i = Vs at *
    generalize hy : wd[i] = y at *
    have hgz : (NL (timesU c 0 Vs))[y]? = some (nV (0 + Vs.count y)) := nl_get (timesU_get hxc)
    -- times[cell] = times[cell] + 1
    refine ⟨_, rfl, _, rfl, tm, _, _, _, rfl, rfl, SqL.of z10, atI_nat hgz, _, 1, rfl, rfl, ?_⟩
    refine ⟨_, rfl, _, rfl, tm, _, (y : Int), y, rfl, rfl, z10, ixN_nat (by rw [nl_len, timesU_len]; exact hxc), ?_⟩
    have hset : (NL (timesU c 0 Vs)).set y (V.int ((((0 + Vs.count y : Nat)) : Int) + 1)) = NL (timesU c 0 (Vs ++ [y])) := by
      rw [← timesU_set hxc, ← nl_set]
      rfl
    show tSeq _ _ _ _ (upd H10 tm (.lst ((NL (timesU c 0 Vs)).set y (V.int ((((0 + Vs.count y : Nat)) : Int) + 1)))))
    rw [hset]
    have i13 := smi_lst (u := .lst (NL (timesU c 0 (Vs ++ [y])))) z10
    have z13 : (upd H10 tm (.lst (NL (timesU c 0 (Vs ++ [y]))))) tm = some (.lst (NL (timesU c 0 (Vs ++ [y])))) := upd_same
    have r13 : (upd H10 tm (.lst (NL (timesU c 0 (Vs ++ [y]))))) rw' = some (.lst rvs') := by rw [upd_ne (Ne.symm d1)]; exact r10
    have p13 : (upd H10 tm (.lst (NL (timesU c 0 (Vs ++ [y]))))) pr = some (.lst pvs') := by rw [upd_ne (Ne.symm d2)]; exact p10
    have s13 : Same H0 (upd H10 tm (.lst (NL (timesU c 0 (Vs ++ [y]))))) := same_out s10 ntm
    generalize upd H10 tm (.lst (NL (timesU c 0 (Vs ++ [y])))) = H13 at z13 r13 p13 s13 i13 ⊢
    have hg2 : (NL (timesU c 0 (Vs ++ [y])))[y]? = some (nV (Vs.count y + 1)) := by
      have := nl_get (ns := timesU c 0 (Vs ++ [y])) (timesU_get (b := 0) (us := Vs ++ [y]) hxc)
      rw [this, List.count_append]
      simp
    -- if times[cell] > MOST_TIMES
    refine ⟨_, rfl, _, rfl, tm, _, _, _, rfl, rfl, SqL.of z13, atI_nat hg2, _, 5, rfl, rfl, _, rfl, ?_⟩
    by_cases h5 : 5 < Vs.count y + 1
    · refine if_t (decide_eq_true (by omega)) ?_
      refine raise5 (hE ⟨y, ?_⟩) s13 rfl
      rw [List.count_append] at cnt_le
      simp at cnt_le
      rw [List.count_append]
      omega
    refine if_f (decide_eq_false (by omega)) ?_
    -- rows.append
    refine ⟨_, rfl, .inl ⟨rfl, _, SqL.of r13⟩, _, rfl, (c : Int), rfl, by omega, by omega, ?_⟩
    intro L nL
    rw [Int.toNat_natCast]
    refine lc_map nL (iw_range (p := 12)) (fun _ => rfl) (by omega) (fun _ _ => trivial) (fun j _ v => v = nV ((unitR c y (Vs.count y + 1)).getD j 0)) (fun _ _ _ _ _ h => h) (fun j H14 hj s14 Qk hk => ?_) (fun H14 ys s14 e14 l14 r14 => ?_)
    · have eu : (unitR c y (Vs.count y + 1)).getD j 0 = if j = y then Vs.count y + 1 else 0 := by
        rw [List.getD_eq_getElem?_getD, unitR_get hj]
        rfl
      rw [eu] at hk
      refine ⟨_, rfl, _, rfl, rfl, _, rfl, ?_⟩
      by_cases hjy : j = y
      · subst hjy
        refine if_t (decide_eq_true (by rw [Int.zero_add])) ?_
        rw [if_pos rfl] at hk
        exact ⟨_, rfl, _, rfl, tm, _, _, _, rfl, rfl, SqL.of (s14 _ _ z13), atI_nat hg2, hk _ _ (Same.refl _) rfl⟩
      · refine if_f (decide_eq_false fun z => hjy ?_) ?_
        · have := V.int.inj z
          omega
        rw [if_neg hjy] at hk
        exact hk _ _ (Same.refl _) rfl
    have ey : ys = NL (unitR c y (Vs.count y + 1)) := by
      apply List.ext_getElem
      · rw [nl_len, l14, unitR_len]
      · intro j h1 h2
        rw [r14 j ys[j] (by simp [h1])]
        have h3 : j < (unitR c y (Vs.count y + 1)).length := by rw [nl_len] at h2; exact h2
        have e5 := nl_get (ns := unitR c y (Vs.count y + 1)) (i := j) (n := (unitR c y (Vs.count y + 1))[j]) (by simp [h3])
        rw [List.getElem?_eq_getElem h2] at e5
        rw [Option.some.inj e5, List.getD_eq_getElem?_getD, List.getElem?_eq_getElem h3]
        rfl
    rw [ey] at e14
    refine kTup_new e14 fun t15 H15 s15 e15 => ?_
    have s135 := s14.trans s15
    have rl := Paired.len rp10
    rw [rowsU_len, hVl] at rl
    refine ⟨rw', rvs', _, rfl, rfl, s135 _ _ r13, Nat.lt_of_le_of_lt (by omega : rvs'.length ≤ 1000) (by decide), ?_⟩
    have i16 := i13.trans ((smi s135).trans (smi_lst (u := .lst (rvs' ++ [.ref t15])) (s135 _ _ r13)))
    have s16 : Same H0 (upd H15 rw' (.lst (rvs' ++ [.ref t15]))) := same_out (s13.trans s135) nrw
    have z16 : (upd H15 rw' (.lst (rvs' ++ [.ref t15]))) tm = some (.lst (NL (timesU c 0 (Vs ++ [y])))) := by rw [upd_ne d1]; exact s135 _ _ z13
    have r16 : (upd H15 rw' (.lst (rvs' ++ [.ref t15]))) rw' = some (.lst (rvs' ++ [.ref t15])) := upd_same
    have p16 : (upd H15 rw' (.lst (rvs' ++ [.ref t15]))) pr = some (.lst pvs') := by rw [upd_ne (Ne.symm d3)]; exact s135 _ _ p13
    have t16 : (upd H15 rw' (.lst (rvs' ++ [.ref t15]))) t15 = some (.tup (NL (unitR c y (Vs.count y + 1)))) := (smi_lst (u := .lst (rvs' ++ [.ref t15])) (s135 _ _ r13)) t15 (.tup (NL (unitR c y (Vs.count y + 1)))) trivial e15
    have rp16 : Paired (TN (upd H15 rw' (.lst (rvs' ++ [.ref t15])))) (rvs' ++ [.ref t15]) (rowsU c (Vs ++ [y])) := by
      rw [rowsU_snoc]
      exact Paired.snoc (L2.Paired.mapP rp10 fun _ _ z => ImmR.mono i16 z) ⟨t15, rfl, t16⟩
    generalize upd H15 rw' (.lst (rvs' ++ [.ref t15])) = H16 at i16 s16 z16 r16 p16 t16 rp16 ⊢
    have kl : ∀ k ∈ ks ++ (List.range (i - 1)).map fun j => U.length + j, k + 1 < Vs.length := fun k hk => by
      rw [hVl]
      rcases List.mem_append.mp hk with h | h
      · have := klt k h
        omega
      · obtain ⟨j, hj, rfl⟩ := List.mem_map.mp h
        rw [List.mem_range] at hj
        omega
    have cfin : ∀ x ∈ wd.take (i + 1), (U ++ wd.take (i + 1)).count x ≤ 5 := fun x hx => by
      rw [tk1]
      rw [tk2] at hx
      have hyc : (Vs ++ [y]).count y ≤ 5 := by
        rw [List.count_append]
        simp
        omega
      rcases List.mem_append.mp hx with h | h
      · rcases c5' x h with h | h
        · exact h
        · rw [h]; exact hyc
      · rw [List.mem_singleton.mp h]
        exact hyc
    -- if i > 0
    refine ⟨_, rfl, _, 0, rfl, rfl, _, rfl, ?_⟩
    rcases Nat.eq_zero_or_pos i with hi0 | hi0
    · refine if_f (decide_eq_false (by omega)) ⟨_, _, rfl, ⟨s16, by rw [tk1]; exact z16, ⟨_, r16, by rw [tk1]; exact rp16⟩, pvs', p16, ?_⟩, cfin⟩
      rw [tk1, pairsU_snoc (by
        intro k hk
        refine kl k ?_
        rw [hi0] at hk ⊢
        simpa using hk)]
      rw [hi0] at pp10 ⊢
      exact L2.Paired.mapP (by simpa using pp10) fun _ _ z => ImmR.mono i16 z
    · refine if_t (decide_eq_true (by omega)) ?_
      have h0 : (rowsU c Vs)[Vs.length]? = some (rowAt c Vs (Vs.length - 1)) := by
        unfold rowsU
        obtain ⟨m, hm⟩ : ∃ m, Vs.length = m + 1 := ⟨Vs.length - 1, by omega⟩
        rw [hm, List.getElem?_cons_succ, List.getElem?_map, List.getElem?_range (by omega)]
        rfl
      obtain ⟨v2, hv2, t2, rfl, ht2⟩ := Paired.get rp10 h0
      have g2 : atI (rvs' ++ [V.ref t15]) (-2) = some (.ref t2) := atI_last2 (m := Vs.length) (by rw [List.getElem?_append_left (by omega)]; exact hv2) (by rw [List.length_append, rl]; simp; omega)
      refine ⟨_, rfl, .inl ⟨rfl, _, SqL.of p16⟩, ?_⟩
      refine ⟨_, rfl, 2, rfl, rw', _, _, _, rfl, rfl, SqL.of r16, g2, ?_⟩
      refine ⟨_, rfl, 1, rfl, rw', _, _, _, rfl, rfl, SqL.of r16, atI_last _ _, ?_⟩
      refine ⟨(by show 2 ≤ sizeLine; decide), fun t17 nt17 => ?_⟩
      have s17 := same_new (o := .tup [.ref t2, .ref t15]) nt17
      have pl := Paired.len pp10
      have pl2 : (pairsU c Vs (ks ++ (List.range (i - 1)).map fun j => U.length + j)).length ≤ 1000 := by
        unfold pairsU
        rw [List.length_map, List.length_append, List.length_map, List.length_range]
        omega
      refine ⟨pr, pvs', _, rfl, rfl, s17 _ _ p16, Nat.lt_of_le_of_lt (by omega : pvs'.length ≤ 1000) (by decide), ?_⟩
      have sl18 := smi_lst (u := .lst (pvs' ++ [.ref t17])) (s17 _ _ p16)
      have i18 := (smi s17).trans sl18
      refine ⟨_, _, rfl, ⟨same_out (s16.trans s17) npr, ?_, ⟨rvs' ++ [.ref t15], ?_, ?_⟩, pvs' ++ [.ref t17], upd_same, ?_⟩, cfin⟩
      · rw [tk1, upd_ne d2]; exact s17 _ _ z16
      · rw [upd_ne d3]; exact s17 _ _ r16
      · rw [tk1]; exact L2.Paired.mapP rp16 fun _ _ z => ImmR.mono i18 z
      · have ek : ks ++ (List.range (i + 1 - 1)).map (fun j => U.length + j) = (ks ++ (List.range (i - 1)).map fun j => U.length + j) ++ [U.length + (i - 1)] := by
          rw [show i + 1 - 1 = (i - 1) + 1 by omega, List.range_succ, List.map_append, List.append_assoc]
          rfl
        rw [ek, tk1]
        have ep : pairsU c (Vs ++ [y]) ((ks ++ (List.range (i - 1)).map fun j => U.length + j) ++ [U.length + (i - 1)]) = pairsU c Vs (ks ++ (List.range (i - 1)).map fun j => U.length + j) ++ [(rowAt c Vs (Vs.length - 1), unitR c y (Vs.count y + 1))] := by
          rw [← pairsU_snoc (x := y) kl]
          unfold pairsU
          rw [List.map_append]
          congr 1
          rw [List.map_cons, List.map_nil, show U.length + (i - 1) + 1 = Vs.length by omega, rowAt_last, show U.length + (i - 1) = Vs.length - 1 by omega, rowAt_snoc (by omega)]
        rw [ep]
        refine Paired.snoc (L2.Paired.mapP pp10 fun _ _ z => ImmR.mono (i16.trans i18) z) ⟨t17, .ref t2, .ref t15, rfl, sl18 _ _ trivial upd_same, ?_, ?_⟩
        · exact ImmR.mono (i16.trans i18) ⟨t2, rfl, ht2⟩
        · exact ⟨t15, rfl, i18 _ _ trivial t16⟩
  · subst e
    rw [nl_len, List.take_length] at St10 c5
    exact q _ _ _ St10 c5
end
end K24
set_option Elab.async false
set_option linter.all false
set_option maxRecDepth 100000
set_option maxHeartbeats 4000000
namespace K24
open PySem PySem.Spec PyProof.Rows L2
section
variable {P : Program} {w : World} {K : PySem.W.Frag} {mg : Str → Option Value}
/-- what is no told word -/
inductive BadW (c : Nat) (H : Hp) (v : V) : Prop
  | notSeq (h : IsSeq H v false)
  | empty (h : LN H v [])
  | letter (a : Addr) (x : V) (e : v = .ref a) (h : H a = some (.lst [x])) (hx : (∃ b, x = .bl b) ∨ ∃ z : Int, x = .int z ∧ (z < 0 ∨ (c : Int) ≤ z))
  | word (wd : List Nat) (h : LN H v wd) (lt : ∀ x ∈ wd, x < c) (ne : wd ≠ []) (l : wd.length ≤ 100) (bad : (∃ (i x : Nat), wd[i]? = some x ∧ wd[i + 1]? = some x) ∨ ∃ x ∈ wd, 5 < wd.count x)
theorem BadW.same {c H H' v} (s : Same H H') (h : BadW c H v) : BadW c H' v := by
  cases h with
  | notSeq h =>
    rcases h with ⟨e, _⟩ | h
    · cases e
    · exact .notSeq (.inr h)
  | empty h => exact .empty (SamR.mono s h)
  | letter a x e h hx => exact .letter a x e (s _ _ h) hx
  | word wd h lt ne l bad => exact .word wd (SamR.mono s h) lt ne l bad
def tWord (K : PySem.W.Frag) (E : XK) : TS := (tSeq (tIfS (tOr (tNot (tB (tCall sp_is_sequence [] E0 (tCons (tVar 6) tNil)))) (tOr (tNot (tTru K (tVar 6))) (tNot (tB (tCB (rAll K) (tCons (tLc (iSeq K (tVar 6)) (gName 12) tYes (tAndV (tCall sp_is_number [] E0 (tCons (tVar 12) tNil)) (tOp (rI0 fun i j => .bl (decide (i < j))) (tVar 12) (tVar 0))) [12]) tNil)))))) (tBad K E) tNext)
  (tSeq (tIfS (tB (tCB (rAny K) (tCons (tLc (iRng1 (tCons (tOp (rI0 fun i j => .int (i - j)) (tCB (rLn K) (tCons (tVar 6) tNil)) (tC (.int 1))) tNil)) (gName 7) tYes (tOp rEq (tOp (rIxL K) (tVar 6) (tVar 7)) (tOp (rIxL K) (tVar 6) (tOp (rI0 fun i j => .int (i + j)) (tVar 7) (tC (.int 1))))) [7]) tNil))) (tBad K E) tNext)
  (tLet K E)))
theorem StH.same {H0 H H' : Hp} {c : Nat} {tm rw' pr : Addr} {us ks : List Nat} (h : StH H0 c tm rw' pr us ks H) (s : Same H H') : StH H0 c tm rw' pr us ks H' := by
  obtain ⟨s0, z0, ⟨rvs0, r0, rp0⟩, pvs0, p0, pp0⟩ := h
  exact ⟨s0.trans s, s _ _ z0, ⟨rvs0, s _ _ r0, L2.Paired.mapP rp0 fun _ _ z => SamR.mono s z⟩, pvs0, s _ _ p0, L2.Paired.mapP pp0 fun _ _ z => SamR.mono s z⟩
def adjB (wd : List Nat) : List Bool := (List.range (wd.length - 1)).map fun i => decide (wd.getD i 0 = wd.getD (i + 1) 0)
theorem adjB_any {wd : List Nat} : (adjB wd).any id = true ↔ ∃ (i x : Nat), wd[i]? = some x ∧ wd[i + 1]? = some x := by
  unfold adjB
  rw [List.any_map, List.any_eq_true]
  constructor
  · rintro ⟨i, hi, e⟩
    rw [List.mem_range] at hi
    have e := of_decide_eq_true e
    have h1 : i < wd.length := by omega
    have h2 : i + 1 < wd.length := by omega
    rw [List.getD_eq_getElem?_getD, List.getD_eq_getElem?_getD, List.getElem?_eq_getElem h1, List.getElem?_eq_getElem h2] at e
    refine ⟨i, wd[i], List.getElem?_eq_getElem h1, ?_⟩
    rw [List.getElem?_eq_getElem h2]
    exact congrArg some e.symm
  · rintro ⟨i, x, h1, h2⟩
    have h3 := (List.getElem?_eq_some_iff.mp h2).1
    refine ⟨i, List.mem_range.mpr (by omega), ?_⟩
    refine decide_eq_true ?_
    rw [List.getD_eq_getElem?_getD, List.getD_eq_getElem?_getD, h1, h2]
/-- a word of letters: the two checks, then the letters -/
theorem sup_word_ok {D : Ends} {E : XK} {H : Hp} {c p : Nat} {wd : List Nat} {v1 v2 v3 v4 : Option V} {x7 x8 : Option V} {at_ : Nat} {H0 : Hp}
    (lt : ∀ x ∈ wd, x < c) (ne : wd ≠ []) (l : wd.length ≤ 100) (hp : H p = some (.lst (NL wd))) (s0 : Same H0 H) (hE : (∃ (i x : Nat), wd[i]? = some x ∧ wd[i + 1]? = some x) → EBad K E H0 at_)
    (q : ∀ H', Same H H' → ¬ (∃ (i x : Nat), wd[i]? = some x ∧ wd[i + 1]? = some x) → tLet K E D [some (nV c), v1, v2, v3, v4, some (nV at_), some (.ref p), x7, x8, none, none, none, none, none, none, none] H') :
    tWord K E D [some (nV c), v1, v2, v3, v4, some (nV at_), some (.ref p), x7, x8, none, none, none, none, none, none, none] H := by
  refine ⟨_, rfl, _, rfl, true, seq_of (k := .L) hp, fun H1 s1 => ⟨true, rfl, if_f rfl ?_⟩⟩
  have hne : (NL wd).isEmpty = false := by
    cases wd with
    | nil => exact absurd rfl ne
    | cons _ _ => rfl
  refine ⟨_, rfl, _, .inl ⟨NL wd, SqL.of (s1 _ _ hp), rfl⟩, if_f (by rw [hne]; rfl) ?_⟩
  refine ⟨_, rfl, p, NL wd, .L, rfl, SqL.of (s1 _ _ hp), ?_⟩
  intro L nL
  refine lc_all nL (iw_seq (k := .L) (p := 12)) (fun _ => rfl) (by rw [nl_len]; omega) (fun H2 s2 => SqL.of (s2 _ _ (s1 _ _ hp))) (fun i H2 hi s2 Qk hk => ?_) (fun H2 s2 e2 => ⟨L, List.replicate (NL wd).length true, rfl, SqL.of e2, ?_⟩)
  · rw [nl_len] at hi
    rw [nl_getD hi]
    have hx := lt wd[i] (List.getElem_mem hi)
    refine ⟨_, rfl, _, rfl, .inl ⟨_, rfl, _, rfl, if_t (decide_eq_true (Int.natCast_nonneg _)) ⟨_, rfl, _, rfl, _, _, rfl, rfl, ?_⟩⟩⟩
    show Qk (.bl (decide (((wd[i] : Nat) : Int) < ((c : Nat) : Int)))) H2
    rw [decide_eq_true (by omega : ((wd[i] : Nat) : Int) < ((c : Nat) : Int))]
    exact hk _ (Same.refl _)
  rw [all_rep]
  refine ⟨true, rfl, if_f rfl ?_⟩
  have s12 := s1.trans s2
  have hp2 := s12 _ _ hp
  refine ⟨_, rfl, p, NL wd, rfl, .inl (SqL.of hp2), _, 1, rfl, rfl, _, rfl, ?_, ?_, ?_⟩
  · rw [nl_len]; omega
  · rw [nl_len]; omega
  intro M nM
  have e1 : (((NL wd).length : Int) - 1).toNat = wd.length - 1 := by rw [nl_len]; omega
  rw [e1]
  refine lc_map nM (iw_range (p := 7)) (fun _ => rfl) (by omega) (fun _ _ => trivial) (fun i _ y => y = .bl (decide (wd.getD i 0 = wd.getD (i + 1) 0))) (fun _ _ _ _ _ h => h) (fun i H3 hi s3 Qk hk => ?_) (fun H3 ys s3 e3 l3 r3 => ?_)
  · have hp3 := s3 _ _ hp2
    have h1 : i < wd.length := by omega
    have h2 : i + 1 < wd.length := by omega
    have g1 : wd.getD i 0 = wd[i] := by rw [List.getD_eq_getElem?_getD, List.getElem?_eq_getElem h1]; rfl
    have g2 : wd.getD (i + 1) 0 = wd[i + 1] := by rw [List.getD_eq_getElem?_getD, List.getElem?_eq_getElem h2]; rfl
    have a1 : atI (NL wd) (0 + (i : Nat)) = some (nV wd[i]) := by
      rw [Int.zero_add]
      exact atI_nat (nl_get (by simp [h1]))
    have a2 : atI (NL wd) (0 + (i : Nat) + 1) = some (nV wd[i + 1]) := by
      rw [Int.zero_add, show ((i : Nat) : Int) + 1 = ((i + 1 : Nat) : Int) from rfl]
      exact atI_nat (nl_get (by simp [h2]))
    refine ⟨_, rfl, _, rfl, p, _, _, _, rfl, rfl, SqL.of hp3, a1, _, rfl, _, rfl, _, 1, rfl, rfl, p, _, _, _, rfl, rfl, SqL.of hp3, a2, ?_⟩
    rw [g1, g2] at hk
    have e4 : decide (nV wd[i] = nV wd[i + 1]) = decide (wd[i] = wd[i + 1]) := decide_eq_decide.mpr ⟨fun z => Int.ofNat.inj (V.int.inj z), fun z => by rw [z]⟩
    refine ⟨rfl, ?_⟩
    rw [e4]
    exact hk _ _ (Same.refl _) rfl
  · have ey : ys = (adjB wd).map V.bl := by
      unfold adjB
      apply List.ext_getElem
      · simp [l3]
      · intro j h1 h2
        rw [r3 j ys[j] (by simp [h1])]
        simp
    rw [ey] at e3
    refine ⟨M, adjB wd, rfl, SqL.of e3, _, rfl, ?_⟩
    by_cases hb : (adjB wd).any id = true
    · rw [hb]
      refine if_t rfl ?_
      exact raise5 (hE (adjB_any.mp hb)) (s0.trans (s12.trans s3)) rfl
    · rw [Bool.not_eq_true] at hb
      rw [hb]
      refine if_f rfl ?_
      exact q _ (s12.trans s3) fun z => by rw [adjB_any.mpr z] at hb; cases hb
/-- a bad word is refused -/
theorem sup_word_bad {D : Ends} {E : XK} {H0 H : Hp} {c : Nat} {U ks : List Nat} {tm rw' pr : Addr} {wv v : V} {x7 x8 : Option V} {at_ : Nat} (c4 : c ≤ 100) (hc : 2 ≤ c) (h12 : U.length ≤ 100)
    (hE : EBad K E H0 at_) (hb : BadW c H0 v)
    (ntm : H0 tm = none) (nrw : H0 rw' = none) (npr : H0 pr = none) (d1 : tm ≠ rw') (d2 : tm ≠ pr) (d3 : rw' ≠ pr)
    (klt : ∀ k ∈ ks, k + 1 < U.length) (kln : ks.length ≤ 100) (S0 : StH H0 c tm rw' pr U ks H) :
    tWord K E D [some (nV c), some wv, some (.ref tm), some (.ref rw'), some (.ref pr), some (nV at_), some v, x7, x8, none, none, none, none, none, none, none] H := by
  have s0 := S0.1
  cases hb with
  | notSeq h =>
    have h' : IsSeq H v false := by
      rcases h with ⟨e, _⟩ | h
      · cases e
      · exact .inr h
    refine ⟨_, rfl, _, rfl, false, h', fun H1 s1 => ⟨false, rfl, if_t rfl ?_⟩⟩
    refine if_t rfl ?_
    exact raise5 hE (s0.trans s1) rfl
  | empty h =>
    obtain ⟨a, rfl, ha⟩ := h
    refine ⟨_, rfl, _, rfl, true, seq_of (k := .L) (s0 _ _ ha), fun H1 s1 => ⟨true, rfl, if_f rfl ?_⟩⟩
    refine ⟨_, rfl, _, .inl ⟨NL [], SqL.of (s1 _ _ (s0 _ _ ha)), rfl⟩, if_t rfl ?_⟩
    refine if_t rfl ?_
    exact raise5 hE (s0.trans s1) rfl
  | letter a x e h hx =>
    subst e
    refine ⟨_, rfl, _, rfl, true, seq_of (k := .L) (s0 _ _ h), fun H1 s1 => ⟨true, rfl, if_f rfl ?_⟩⟩
    have h1 := s1 _ _ (s0 _ _ h)
    refine ⟨_, rfl, _, .inl ⟨[x], SqL.of h1, rfl⟩, if_f rfl ?_⟩
    refine ⟨_, rfl, a, [x], .L, rfl, SqL.of h1, ?_⟩
    intro L nL
    refine lc_map nL (iw_seq (k := .L) (p := 12)) (fun _ => rfl) (by simp) (fun H2 s2 => SqL.of (s2 _ _ h1)) (fun i _ y => y = .bl false) (fun _ _ _ _ _ h => h) (fun i H2 hi s2 Qk hk => ?_) (fun H2 ys s2 e2 l2 r2 => ?_)
    · have hi0 : i = 0 := by simp at hi; exact hi
      subst hi0
      rcases hx with ⟨b, rfl⟩ | ⟨z, rfl, hz⟩
      · exact ⟨_, rfl, _, rfl, .inr ⟨b, rfl, _, rfl, if_f rfl (hk _ _ (Same.refl _) rfl)⟩⟩
      · refine ⟨_, rfl, _, rfl, .inl ⟨z, rfl, _, rfl, ?_⟩⟩
        rcases hz with hz | hz
        · exact if_f (decide_eq_false (by omega)) (hk _ _ (Same.refl _) rfl)
        · refine if_t (decide_eq_true (by omega)) ⟨_, rfl, _, rfl, _, _, rfl, rfl, ?_⟩
          show Qk (.bl (decide (z < ((c : Nat) : Int)))) H2
          rw [decide_eq_false (by omega : ¬ z < ((c : Nat) : Int))]
          exact hk _ _ (Same.refl _) rfl
    · have ey : ys = [false].map V.bl := by
        match ys, l2, r2 with
        | [y], _, r2 => rw [r2 0 y rfl]; rfl
      rw [ey] at e2
      refine ⟨L, [false], rfl, SqL.of e2, false, rfl, if_t rfl ?_⟩
      exact raise5 hE (s0.trans (s1.trans s2)) rfl
  | word wd h lt ne l bad =>
    obtain ⟨p, rfl, hp⟩ := h
    refine sup_word_ok lt ne l (s0 _ _ hp) s0 (fun _ => hE) fun H1 s1 nad => ?_
    refine sup_letters c4 hc lt h12 l (fun _ => hE) ntm nrw npr d1 d2 d3 hp klt kln (S0.same s1) fun x7 x8 H' _ hcnt => ?_
    exfalso
    rcases bad with h | ⟨x, hx, h⟩
    · exact nad h
    · have := hcnt x hx
      rw [List.count_append] at this
      omega
end
end K24
set_option Elab.async false
set_option linter.all false
set_option maxRecDepth 100000
set_option maxHeartbeats 4000000
namespace K24
open PySem PySem.Spec PyProof.Rows L2
/-- told words, perhaps none -/
structure GoodWs (c : Nat) (ws : List (List Nat)) : Prop where
  c2 : 2 ≤ c
  c4 : c ≤ 4
  len : ws.length ≤ 3
  word : ∀ w ∈ ws, ToldW c w
  five : ∀ x, ws.flatten.count x ≤ 5
theorem ToldWs.good {c ws} (T : ToldWs c ws) : GoodWs c ws := ⟨T.c2, T.c4, T.len, T.word, T.five⟩
theorem good_len {c : Nat} : ∀ {ws : List (List Nat)}, (∀ w ∈ ws, ToldW c w) → ws.flatten.length ≤ 4 * ws.length
  | [], _ => by simp
  | w :: r, h => by
    have ih := good_len (ws := r) fun v hv => h v (List.mem_cons_of_mem _ hv)
    have := (h w (by simp)).len
    rw [List.flatten_cons, List.length_append, List.length_cons]
    omega
section
variable {P : Program} {w : World} {K : PySem.W.Frag} {mg : Str → Option Value}
def tWords (K : PySem.W.Frag) (E : XK) : TS := (tFor (iEnK K (tCons (tVar 1) tNil)) (gTup K 2 (gCons (gName 5) (gCons (gName 6) gNil))) (tWord K E))
theorem sup_words {D : Ends} {E : XK} {H0 H : Hp} {c : Nat} {ws : List (List Nat)} {wa : Addr} {kd : Kd} {wvs : List V} {tm rw' pr : Addr} (G : GoodWs c ws)
    (hwa : H0 wa = some (kd.ho wvs)) (hw : ∀ (i : Nat) (wd : List Nat), ws[i]? = some wd → ∃ v, wvs[i]? = some v ∧ LN H0 v wd) (hl : ws.length ≤ wvs.length)
    (hbad : ws.length < wvs.length → (∃ v, wvs[ws.length]? = some v ∧ BadW c H0 v) ∧ EBad K E H0 ws.length)
    (ntm : H0 tm = none) (nrw : H0 rw' = none) (npr : H0 pr = none) (d1 : tm ≠ rw') (d2 : tm ≠ pr) (d3 : rw' ≠ pr) (S0 : StH H0 c tm rw' pr [] [] H)
    (q : ws.length = wvs.length → ∀ x5 x6 x7 x8 H', StH H0 c tm rw' pr ws.flatten (startsFrom 0 ws) H' → D.nx [some (nV c), some (.ref wa), some (.ref tm), some (.ref rw'), some (.ref pr), x5, x6, x7, x8, none, none, none, none, none, none, none] H') :
    tWords K E D [some (nV c), some (.ref wa), some (.ref tm), some (.ref rw'), some (.ref pr), none, none, none, none, none, none, none, none, none, none, none] H := by
  have c4 := G.c4
  have c2 := G.c2
  refine ⟨_, rfl, wa, wvs, kd, rfl, sq_of (S0.1 _ _ hwa), ?_⟩
  refine for_go (iw_enum (p := 5) (q := 6)) (fun m σ H' => m ≤ ws.length ∧ ∃ x5 x6 x7 x8, σ = [some (nV c), some (.ref wa), some (.ref tm), some (.ref rw'), some (.ref pr), x5, x6, x7, x8, none, none, none, none, none, none, none] ∧ StH H0 c tm rw' pr (ws.take m).flatten (startsFrom 0 (ws.take m)) H')
    ⟨Nat.zero_le _, _, _, _, _, rfl, by simpa [startsFrom] using S0⟩ (fun m σ H' _ ⟨_, _, _, _, _, _, s, _⟩ => sq_of (s _ _ hwa)) (fun m σ H1 H2 hm ⟨hml, x5, x6, x7, x8, e, S1⟩ s2 => ?_) (fun σ H1 ⟨hml, x5, x6, x7, x8, e, S1⟩ => ?_)
  · subst e
    have S2 := S1.same s2
    have Ul : (ws.take m).flatten.length ≤ 4 * (ws.take m).length := good_len fun w hw => G.word w (List.mem_of_mem_take hw)
    have tl : (ws.take m).length ≤ 3 := by rw [List.length_take]; have := G.len; omega
    have klt := startsFrom_lt 0 (ws.take m)
    have kln := startsFrom_len 0 (ws.take m)
    rw [Nat.zero_add] at klt
    rcases Nat.lt_or_ge m ws.length with hlt | hge
    · obtain ⟨wd, hwd⟩ := lt_get hlt
      obtain ⟨v, hv, hv2⟩ := hw m wd hwd
      have tw := G.word wd (mem_get hwd)
      have twl := tw.len
      have tkf : (ws.take (m + 1)).flatten = (ws.take m).flatten ++ wd := by
        rw [List.take_succ, hwd, List.flatten_append]
        simp
      have tks : startsFrom 0 (ws.take (m + 1)) = startsFrom 0 (ws.take m) ++ (List.range (wd.length - 1)).map fun i => (ws.take m).flatten.length + i := by
        rw [List.take_succ, hwd]
        show startsFrom 0 (ws.take m ++ [wd]) = _
        rw [startsFrom_snoc]
        simp
      have five : ∀ x, ((ws.take m).flatten ++ wd).count x ≤ 5 := fun x => by
        rw [← tkf]
        have h1 : (ws.take (m + 1)).flatten.count x ≤ ws.flatten.count x := by
          conv => rhs; rw [← List.take_append_drop (m + 1) ws]
          rw [List.flatten_append, List.count_append]
          omega
        have := G.five x
        omega
      rw [get_getD hv]
      obtain ⟨p, rfl, hp⟩ := hv2
      refine sup_word_ok tw.lt tw.ne (by omega) (S2.1 _ _ hp) S2.1 (fun ⟨i, x, h1, h2⟩ => absurd rfl (tw.adj i x x h1 h2)) fun H3 s3 _ => ?_
      refine sup_letters (by omega) c2 tw.lt (by omega) (by omega) (fun ⟨x, hx⟩ => absurd (five x) (by omega)) ntm nrw npr d1 d2 d3 hp klt (by omega) (S2.same s3) fun x7 x8 H' St _ => ?_
      refine ⟨hlt, _, _, _, _, rfl, ?_⟩
      rw [tkf, tks]
      exact St
    · have em : m = ws.length := by omega
      subst em
      obtain ⟨⟨v, hv, bv⟩, hE⟩ := hbad hm
      rw [get_getD hv]
      exact sup_word_bad (by omega) c2 (by omega) hE bv ntm nrw npr d1 d2 d3 klt (by omega) S2
  · subst e
    have el : ws.length = wvs.length := by omega
    rw [← el, List.take_length] at S1
    exact q el _ _ _ _ _ S1
end
end K24
set_option Elab.async false
set_option linter.all false
set_option maxRecDepth 100000
set_option maxHeartbeats 4000000
namespace K24
open PySem PySem.Spec PyProof.Rows L2
section
variable {P : Program} {w : World} {K : PySem.W.Frag} {mg : Str → Option Value}
def tTail (K : PySem.W.Frag) (sp_Houseinit : Sp) : TS :=   (tSeq (tAsg (tCo (fun _ => .dT []) (iEnK K (tCons (tCB (rSortTA K) (tCons (tVar 3) tNil)) tNil)) (gTup K 2 (gCons (gName 5) (gCons (gName 13) gNil))) tYes (addT (tVar 13) (tVar 5)) [5, 13]) (gName 9))
  (tSeq (tAsg (tLc (iSeq K (tVar 4)) (gTup K 2 (gCons (gName 14) (gCons (gName 15) gNil))) tYes (tTup (tCons (tDGet (tVar 9) (tVar 14)) (tCons (tDGet (tVar 9) (tVar 15)) tNil))) [14, 15]) (gName 10))
  (tSeq (tAsg (tMake (cH K) sp_Houseinit [] E0 (tCons (tLc (iSeq K (tVar 2)) (gName 12) tYes (tOp (rI0 fun i j => .int (i + j)) (tVar 12) (tC (.int 1))) [12]) (tCons (tVar 3) (tCons (tVar 10) tNil)))) (gName 11))
  (tRet (tTup (tCons (tVar 11) (tCons (tOp (rCatA K) (tTup (tCons (tC (.int 0)) tNil)) (tOp (rRepT1 K) (tTup (tCons (tC (.int 1)) tNil)) (tOp (rI0 fun i j => .int (i - j)) (tCB (rLn K) (tCons (tVar 3) tNil)) (tC (.int 1))))) tNil)))))))
def Made (K : PySem.W.Frag) (c : Nat) (us ks : List Nat) (t : Addr) (H' : Hp) : Prop := ∃ h q D st, H' t = some (.tup [h, q]) ∧ HS K H' h D ∧ IsSort (rowsU c us) st ∧ IsHouse (timesU c 1 us) (rowsU c us) (idxPairs c us ks st) D ∧ TN H' q (0 :: List.replicate us.length 1)
theorem sup_tail {Q : VK} {H0 H : Hp} {c : Nat} {us ks : List Nat} {tm rw' pr : Addr} {v1 x5 x6 x7 x8 : Option V} (c2 : 2 ≤ c) (c4 : c ≤ 100) (ul : us.length ≤ 12) (u1 : 1 ≤ us.length) (kl : ks.length ≤ us.length) (klt : ∀ k ∈ ks, k + 1 < us.length)
    (nd : (rowsU c us).Nodup) (gv : ∀ st, IsSort (rowsU c us) st → Given (timesU c 1 us) (rowsU c us) (idxPairs c us ks st)) (S0 : StH H0 c tm rw' pr us ks H)
    (q : ∀ t H', Same H0 H' → Made K c us ks t H' → Q (.ref t) H') :
    tTail K (sp_Houseinit K) (Dn Q) [some (nV c), v1, some (.ref tm), some (.ref rw'), some (.ref pr), x5, x6, x7, x8, none, none, none, none, none, none, none] H := by
  obtain ⟨s9, z9, ⟨rvs, r9, rp9⟩, pvs, p9, pp9⟩ := S0
  have nr := Paired.len rp9
  have np := Paired.len pp9
  rw [rowsU_len] at nr
  have np2 : pvs.length = ks.length := by rw [np]; unfold pairsU; rw [List.length_map]
  -- number
  refine ⟨_, rfl, c, 64, by omega, rw', rvs, rfl, SqL.of r9, by omega, fun x hx => ?_, fun zs R perm pw nR => ?_⟩
  · obtain ⟨ns, h1, h2⟩ := paired_tn rp9 x hx
    obtain ⟨h3, h4⟩ := row_lt h1 (by omega)
    exact ⟨toI ns, tupI h2, by unfold toI; rw [List.length_map]; exact h3, bd_toI h4⟩
  obtain ⟨st, hst, iss⟩ := sort_data rp9 perm pw
  have ndst : st.Nodup := iss.perm.nodup_iff.mpr nd
  have sR := same_new (o := .lst zs) nR
  have z10 := sR _ _ z9
  have p10 := sR _ _ p9
  have r10 := sR _ _ r9
  have R10 : (upd H R (.lst zs)) R = some (.lst zs) := upd_same
  have rp10 : Paired (TN (upd H R (.lst zs))) rvs (rowsU c us) := L2.Paired.mapP rp9 fun _ _ z => SamR.mono sR z
  have st10 : Paired (TN (upd H R (.lst zs))) zs st := L2.Paired.mapP hst fun _ _ z => SamR.mono sR z
  have pp10 : Paired (LW (upd H R (.lst zs))) pvs (pairsU c us ks) := L2.Paired.mapP pp9 fun _ _ z => SamR.mono sR z
  have s10 := s9.trans sR
  have zl : zs.length = st.length := Paired.len st10
  have sl : st.length = us.length + 1 := by rw [iss.perm.length_eq, rowsU_len]
  generalize upd H R (.lst zs) = H10 at z10 p10 r10 R10 rp10 st10 pp10 s10 ⊢
  refine ⟨R, zs, .L, rfl, SqL.of R10, ?_⟩
  intro D nD
  have nD0 := same_none s10 nD
  refine co_go (o0 := fun _ => .dT []) (tt := tYes) (add := addT (tVar 13) (tVar 5)) (iw_enum (k := .L) (p := 5) (q := 13)) (fun _ => rfl) (fun i H' => Same H10 H' ∧ ∃ kvs : List (List Key × V), H' D = some (.dT kvs) ∧ kvs.length ≤ i ∧ ∀ r ∈ st.take i, valV kvs (kN r) = some (nV (st.idxOf r)))
    ⟨same_new nD, [], upd_same, Nat.le_refl _, fun r hr => by simp at hr⟩ (fun i H' _ ⟨s, _⟩ => SqL.of (s _ _ R10)) (fun i H1 H2 hi ⟨s1, kvs, e1, l1, f1⟩ s2 => ?_) (fun H1 ⟨s1, kvs, e1, l1, f1⟩ => ?_)
  · obtain ⟨x, hx⟩ := lt_get (xs := zs) hi
    obtain ⟨r, hr, b, rfl, hb⟩ := Paired.get' st10 hx
    simp only [tYes, if_true]
    rw [get_getD hx]
    have hb2 := s2 _ _ (s1 _ _ hb)
    refine ⟨_, rfl, _, rfl, kvs, kN r, b, s2 _ _ e1, rfl, by rw [kN_map]; exact hb2, Nat.lt_of_le_of_lt (by omega : kvs.length ≤ 1000) (by decide), same_out (s1.trans s2) nD, _, upd_same, ?_, fun r' hr' => ?_⟩
    · have := length_putK kvs (kN r) (V.int (i : Nat))
      omega
    · rw [valV_put]
      have hil : i < st.length := by omega
      have er : st[i] = r := by
        rw [List.getElem?_eq_getElem hil] at hr
        exact Option.some.inj hr
      by_cases z : r' = r
      · subst z
        rw [if_pos rfl, ← er, List.Nodup.idxOf_getElem ndst]
      · rw [if_neg fun z2 => z (kN_inj z2)]
        rw [List.take_succ, hr] at hr'
        rcases List.mem_append.mp hr' with h | h
        · exact f1 r' h
        · simp at h
          exact absurd h z
  rw [zl, List.take_length] at f1
  have s1' := s10.trans s1
  have p11 := s1 _ _ p10
  have z11 := s1 _ _ z10
  have r11 := s1 _ _ r10
  have rp11 : Paired (TN H1) rvs (rowsU c us) := L2.Paired.mapP rp10 fun _ _ z => SamR.mono s1 z
  have pp11 : Paired (LW H1) pvs (pairsU c us ks) := L2.Paired.mapP pp10 fun _ _ z => SamR.mono s1 z
  -- changes
  refine ⟨_, rfl, pr, pvs, .L, rfl, SqL.of p11, ?_⟩
  intro CD nC
  have iw : Iw (ItS K pr .L) (gTup K 2 (gCons (gName 14) (gCons (gName 15) gNil))) pvs.length (fun i σ => (σ.set 14 (some (hv1 H1 (pvs.getD i .non)))).set 15 (some (hv2 H1 (pvs.getD i .non)))) (fun H' => Same H1 H') := by
    refine ⟨fun i H' hi s => ⟨pvs, pvs[i], SqL.of (s _ _ p11), by simp [hi]⟩, fun H' s => ⟨pvs, SqL.of (s _ _ p11), Nat.le_refl _⟩, fun i σ H' z H'' hi s y k hk => ?_⟩
    obtain ⟨e1, y⟩ := y
    subst e1
    have hy := y pvs (SqL.of (s _ _ p11))
    obtain ⟨pq, hpq, t, a, b, rfl, ht, ha, hb⟩ := Paired.get' pp11 hy
    rw [get_getD hy] at hk
    unfold hv1 hv2 at hk
    simp only [ht] at hk
    exact ⟨t, [a, b], rfl, SqT.of (s _ _ ht), rfl, _, _, rfl, _, _, rfl, rfl, hk _ (Same.refl _)⟩
  refine lc_map nC iw (fun _ => rfl) (by omega) (fun H2 s2 => s2) (fun i H y => TN H y ((idxPairs c us ks st).getD i [])) (fun _ _ _ _ s h => ImmR.mono s h) (fun i H13 hi s13 Qk hk => ?_) (fun H13 ys s13 e13 l13 r13 => ?_)
  · obtain ⟨u, hu⟩ := lt_get hi
    obtain ⟨pq, hpq, t, a, b, rfl, ht, ha, hb⟩ := Paired.get' pp11 hu
    obtain ⟨k, hk2⟩ := lt_get (xs := ks) (i := i) (by omega)
    have ep : pq = (rowAt c us k, rowAt c us (k + 1)) := by
      unfold pairsU at hpq
      rw [List.getElem?_map, hk2] at hpq
      exact (Option.some.inj hpq).symm
    subst ep
    have kb := klt k (mem_get hk2)
    have m1 : rowAt c us k ∈ st := iss.perm.mem_iff.mpr (rowAt_mem (by omega))
    have m2 : rowAt c us (k + 1) ∈ st := iss.perm.mem_iff.mpr (rowAt_mem (by omega))
    have eg : (idxPairs c us ks st).getD i [] = [st.idxOf (rowAt c us k), st.idxOf (rowAt c us (k + 1))] := by
      unfold idxPairs
      rw [List.getD_eq_getElem?_getD, List.getElem?_map, hpq]
      rfl
    rw [eg] at hk
    rw [get_getD hu]
    unfold hv1 hv2
    simp only [ht]
    obtain ⟨a', rfl, ha'⟩ := SamR.mono s13 ha
    obtain ⟨b', rfl, hb'⟩ := SamR.mono s13 hb
    refine ⟨_, rfl, _, rfl, D, _, rfl, dget_t (k := kN (rowAt c us k)) (s13 _ _ e1) (by rw [kN_map]; exact ha') (f1 _ m1), ?_⟩
    refine ⟨_, rfl, _, rfl, D, _, rfl, dget_t (k := kN (rowAt c us (k + 1))) (s13 _ _ e1) (by rw [kN_map]; exact hb') (f1 _ m2), ?_⟩
    exact ⟨(by show 2 ≤ sizeLine; decide), fun t14 n14 => hk _ _ (same_new n14) ⟨t14, rfl, upd_same⟩⟩
  have li : (idxPairs c us ks st).length = pvs.length := by unfold idxPairs; rw [List.length_map]; exact np.symm
  have pr13 : Paired (TN H13) ys (idxPairs c us ks st) := Paired.of_get (by omega) fun i x y hx hy => by
    have := r13 i x hx
    rwa [show (idxPairs c us ks st).getD i [] = y by rw [List.getD_eq_getElem?_getD, hy]; rfl] at this
  -- House(..)
  have z13 := s13 _ _ z11
  refine ⟨_, rfl, tm, _, .L, rfl, SqL.of z13, ?_⟩
  intro TD nT
  refine lc_map nT (iw_seq (k := .L) (p := 12)) (fun _ => rfl) (by rw [nl_len, timesU_len]; omega) (fun H2 s2 => SqL.of (s2 _ _ z13)) (fun i _ y => y = nV ((timesU c 1 us).getD i 0)) (fun _ _ _ _ _ h => h) (fun i H14 hi s14 Qk hk => ?_) (fun H14 ts s14 e14 l14 r14 => ?_)
  · rw [nl_len, timesU_len] at hi
    have g0 : (NL (timesU c 0 us)).getD i .non = nV (0 + us.count i) := get_getD (nl_get (timesU_get hi))
    have g1 : (timesU c 1 us).getD i 0 = 1 + us.count i := by rw [List.getD_eq_getElem?_getD, timesU_get hi]; rfl
    rw [g1] at hk
    rw [g0]
    refine ⟨_, rfl, _, 1, rfl, rfl, ?_⟩
    have : V.int (((0 + us.count i : Nat) : Int) + 1) = nV (1 + us.count i) := by
      congr 1
      omega
    show Qk (V.int (((0 + us.count i : Nat) : Int) + 1)) H14
    rw [this]
    exact hk _ _ (Same.refl _) rfl
  have et : ts = NL (timesU c 1 us) := by
    apply List.ext_getElem
    · rw [nl_len, l14, nl_len, timesU_len, timesU_len]
    · intro j h1 h2
      rw [r14 j ts[j] (by simp [h1])]
      have h3 : j < (timesU c 1 us).length := by rw [nl_len] at h2; exact h2
      have e5 := nl_get (ns := timesU c 1 us) (i := j) (n := (timesU c 1 us)[j]) (by simp [h3])
      rw [List.getElem?_eq_getElem h2] at e5
      rw [Option.some.inj e5, List.getD_eq_getElem?_getD, List.getElem?_eq_getElem h3]
      rfl
  rw [et] at e14
  refine ⟨_, rfl, _, rfl, fun x dx nx ndx dxx => ?_⟩
  have sx : Same H14 (upd (upd H14 dx (.own x)) x (.ins (cH K) dx [])) := (same_new ndx).trans (same_new (by rw [upd_ne (Ne.symm dxx)]; exact nx))
  have s114 := s13.trans s14
  have nx0 : H0 x = none := same_none (s1'.trans s114) nx
  refine ⟨_, _, _, _, rfl, x, dx, timesU c 1 us, rowsU c us, idxPairs c us ks st, rfl, upd_same, ⟨.L, TD, rfl, sx _ _ e14⟩, ⟨.L, rw', rvs, rfl, sx _ _ (s114 _ _ r11), L2.Paired.mapP rp11 fun _ _ z => SamR.mono (s114.trans sx) z⟩, ⟨.L, CD, ys, rfl, sx _ _ (s14 _ _ e13), L2.Paired.mapP pr13 fun _ _ z => SamR.mono (s14.trans sx) z⟩, gv st iss, fun H15 D' X15 hs15 ih => ⟨rfl, ?_⟩⟩
  -- the question
  have r15 : H15 rw' = some (.lst rvs) := X15 _ _ (fun z => by rw [z] at r11; rw [s114 _ _ r11] at nx; cases nx) (sx _ _ (s114 _ _ r11))
  have s15 : Same H0 H15 := fun b o h => X15 _ _ (fun z => by rw [z, nx0] at h; cases h) (sx _ _ (s114 _ _ (s1' _ _ h)))
  refine ⟨_, rfl, (by show 1 ≤ sizeLine; decide), fun q1 nq1 => ?_⟩
  have a1 := same_new (o := .tup [V.int 0]) nq1
  refine ⟨(by show 1 ≤ sizeLine; decide), fun q2 nq2 => ?_⟩
  have a2 := same_new (o := .tup [V.int 1]) nq2
  refine ⟨_, rfl, rw', rvs, rfl, .inl (SqL.of (a2 _ _ (a1 _ _ r15))), _, 1, rfl, rfl, ?_⟩
  have fin : ∀ q3 H16, Same H15 H16 → H16 q1 = some (.tup [V.int 0]) → H16 q3 = some (.tup (List.replicate us.length (V.int 1))) → rCatA K (.ref q1) (.ref q3) H16 fun x1 H17 => 2 ≤ sizeLine ∧ ∀ p, H17 p = none → Q (.ref p) (upd H17 p (.tup [.ref x, x1])) := by
    intro q3 H16 s16 h1 h3
    refine ⟨q1, q3, [V.int 0], List.replicate us.length (V.int 1), rfl, rfl, SqT.of h1, SqT.of h3, ?_, (fun e => nomatch e), fun _ e => ?_, fun _ _ p np => ⟨(by show 2 ≤ sizeLine; decide), fun t nt => ?_⟩⟩
    · rw [List.length_replicate]
      exact Nat.le_of_lt (Nat.lt_of_le_of_lt (show 1 + us.length ≤ 1001 by omega) (by decide))
    · exfalso
      have h0 := congrArg List.length e
      rw [List.length_replicate] at h0
      have h00 : us.length = 0 := h0
      omega
    · have s17 := same_new (o := .tup ([V.int 0] ++ List.replicate us.length (V.int 1))) np
      have s18 := same_new (o := .tup [.ref x, .ref p]) nt
      have sf := s16.trans (s17.trans s18)
      refine q t _ (s15.trans sf) ⟨.ref x, .ref p, D', st, upd_same, SamR.mono sf hs15, iss, ih, p, rfl, ?_⟩
      rw [s18 _ _ upd_same]
      congr 2
      unfold NL
      rw [List.map_cons, List.map_replicate]
      rfl
  have ku : (((rvs.length : Nat) : Int) - 1) = ((us.length : Nat) : Int) := by omega
  refine ⟨q2, _, [V.int 1], rfl, rfl, SqT.of (upd_same), by simp, by omega, by omega, by simp, fun h => ?_, fun h p np => ?_⟩
  · refine fin q2 _ (a1.trans a2) (a2 _ _ upd_same) ?_
    rw [upd_same, show us.length = 1 by omega]
    rfl
  · have a3 := same_new (o := .tup (List.replicate (((rvs.length : Nat) : Int) - 1).toNat [V.int 1]).flatten) np
    refine fin p _ (a1.trans (a2.trans a3)) (a3 _ _ (a2 _ _ upd_same)) ?_
    rw [upd_same, rep_flat, ku, Int.toNat_natCast]
end
end K24
set_option Elab.async false
set_option linter.all false
set_option maxRecDepth 100000
set_option maxHeartbeats 4000000
namespace K24
open PySem PySem.Spec PyProof.Rows L2
section
variable {P : Program} {w : World} {K : PySem.W.Frag} {mg : Str → Option Value}
theorem timesU_nil0 (c b : Nat) : timesU c b [] = List.replicate c b := timesU_nil c b
def ToldOk (c : Nat) (ws : List (List Nat)) : Prop := (rowsU c ws.flatten).Nodup ∧ ∀ st, IsSort (rowsU c ws.flatten) st → Given (timesU c 1 ws.flatten) (rowsU c ws.flatten) (idxPairs c ws.flatten (startsFrom 0 ws) st)
def sp_superword_house (K : PySem.W.Frag) : Sp := S2 fun cv wv H Q E => ∃ c, cv = nV c ∧ 2 ≤ c ∧ c ≤ 4 ∧
  ((∃ ws, SK LN H wv ws ∧ ToldWs c ws ∧ ToldOk c ws ∧ ∀ t H', Same H H' → Made K c ws.flatten (startsFrom 0 ws) t H' → Q (.ref t) H') ∨
   (∃ (ws : List (List Nat)) (wa : Addr) (kd : Kd) (wvs : List V) (v : V), wv = .ref wa ∧ H wa = some (kd.ho wvs) ∧ GoodWs c ws ∧ (∀ (i : Nat) (wd : List Nat), ws[i]? = some wd → ∃ v, wvs[i]? = some v ∧ LN H v wd) ∧ wvs[ws.length]? = some v ∧ BadW c H v ∧ EBad K E H ws.length) ∨
   (IsSeq H wv false ∧ EBad K E H (-1)))
theorem rd_superword_house {vs : List V} {H : Hp} {Q : VK} {E : XK} (h : sp_superword_house K vs H Q E) : t_superwordX P w K (sp_Houseinit K) sp_is_sequence sp_is_number E (Dn Q) (start N_superword_house vs) H := by
  obtain ⟨cv, wv, rfl, c, rfl, c2, c4, h⟩ := h
  -- the common part
  have main : ∀ (wa : Addr) (kd : Kd) (wvs : List V) (ws : List (List Nat)) (H1 : Hp), Same H H1 → H wa = some (kd.ho wvs) → GoodWs c ws → (∀ (i : Nat) (wd : List Nat), ws[i]? = some wd → ∃ v, wvs[i]? = some v ∧ LN H v wd) → ws.length ≤ wvs.length →
      (ws.length < wvs.length → (∃ v, wvs[ws.length]? = some v ∧ BadW c H v) ∧ EBad K E H ws.length) →
      (ws.length = wvs.length → ToldWs c ws ∧ ToldOk c ws ∧ ∀ t H', Same H H' → Made K c ws.flatten (startsFrom 0 ws) t H' → Q (.ref t) H') →
      tSeq (tAsg (tTup (tCons (tOp rRep (tLst (tCons (tC (.int 0)) tNil)) (tVar 0)) (tCons (tLst (tCons (tOp (rRepT1 K) (tTup (tCons (tC (.int 0)) tNil)) (tVar 0)) tNil)) (tCons (tLst tNil) tNil)))) (gTup K 3 (gCons (gName 2) (gCons (gName 3) (gCons (gName 4) gNil)))))
        (tSeq (tWords K E) (tTail K (sp_Houseinit K))) (Dn Q) [some (nV c), some (.ref wa), none, none, none, none, none, none, none, none, none, none, none, none, none, none] H1 := by
    intro wa kd wvs ws H1 s1 hwa G hw hl hbad hok
    refine ⟨(by show 1 ≤ sizeLine; decide), fun a1 n1 => ⟨_, rfl, a1, (c : Int), _, rfl, rfl, upd_same, by omega, by omega, ?_, fun tm ntm => ?_⟩⟩
    · show 1 * ((c : Int)).toNat ≤ sizeLine
      exact Nat.le_trans (by omega : 1 * ((c : Int)).toNat ≤ 1000) (by decide)
    rw [rep_flat, Int.toNat_natCast]
    have s2 := (same_new (o := .lst [V.int 0]) n1).trans (same_new (o := .lst (List.replicate c (V.int 0))) ntm)
    have e2 : (upd (upd H1 a1 (.lst [V.int 0])) tm (.lst (List.replicate c (V.int 0)))) tm = some (.lst (NL (timesU c 0 []))) := by
      rw [upd_same, timesU_nil, nl_rep]
      rfl
    have ntm0 := same_none (s1.trans (same_new (o := .lst [V.int 0]) n1)) ntm
    generalize upd (upd H1 a1 (.lst [V.int 0])) tm (.lst (List.replicate c (V.int 0))) = H2 at s2 e2 ⊢
    refine ⟨(by show 1 ≤ sizeLine; decide), fun z1 nz1 => ⟨_, rfl, z1, (c : Int), [V.int 0], rfl, rfl, SqT.of upd_same, by simp, by omega, by omega, by simp, fun h => absurd h (by omega), fun _ z2 nz2 => ?_⟩⟩
    rw [rep_flat, Int.toNat_natCast]
    have s3 := (same_new (o := .tup [V.int 0]) nz1).trans (same_new (o := .tup (List.replicate c (V.int 0))) nz2)
    have e3 : (upd (upd H2 z1 (.tup [V.int 0])) z2 (.tup (List.replicate c (V.int 0)))) z2 = some (.tup (NL (List.replicate c 0))) := by
      rw [upd_same, nl_rep]
      rfl
    generalize upd (upd H2 z1 (.tup [V.int 0])) z2 (.tup (List.replicate c (V.int 0))) = H3 at s3 e3 ⊢
    refine ⟨(by show 1 ≤ sizeLine; decide), fun rw' nrw => ⟨Nat.zero_le _, fun pr npr => ⟨(by show 3 ≤ sizeLine; decide), fun tp ntp => ?_⟩⟩⟩
    have s4 := same_new (o := .lst [.ref z2]) nrw
    have s5 := same_new (o := .lst []) npr
    have s6 := same_new (o := .tup [.ref tm, .ref rw', .ref pr]) ntp
    have s13 := s1.trans (s2.trans s3)
    have nrw0 := same_none s13 nrw
    have npr0 := same_none (s13.trans s4) npr
    have d1 : tm ≠ rw' := ne_of_none (s3 _ _ e2) nrw
    have d2 : tm ≠ pr := ne_of_none (s4 _ _ (s3 _ _ e2)) npr
    have d3 : rw' ≠ pr := ne_of_none (upd_same (H := H3) (a := rw') (o := .lst [.ref z2])) npr
    have S0 : StH H c tm rw' pr [] [] (upd (upd (upd H3 rw' (.lst [.ref z2])) pr (.lst [])) tp (.tup [.ref tm, .ref rw', .ref pr])) :=
      ⟨s13.trans (s4.trans (s5.trans s6)), s6 _ _ (s5 _ _ (s4 _ _ (s3 _ _ e2))), ⟨[.ref z2], s6 _ _ (s5 _ _ upd_same), .cons ⟨z2, rfl, s6 _ _ (s5 _ _ (s4 _ _ e3))⟩ .nil⟩, [], s6 _ _ upd_same, .nil⟩
    refine ⟨tp, _, rfl, SqT.of upd_same, rfl, _, _, rfl, _, _, rfl, _, _, rfl, rfl, ?_⟩
    refine sup_words G hwa hw hl hbad ntm0 nrw0 npr0 d1 d2 d3 S0 fun el x5 x6 x7 x8 H' St => ?_
    obtain ⟨T, ⟨nd, gv⟩, q⟩ := hok el
    have tl := told_len T
    have u1 : 1 ≤ ws.flatten.length := by
      obtain ⟨w0, r, e⟩ : ∃ w0 r, ws = w0 :: r := by
        cases hws : ws with
        | nil => exact absurd hws T.ne
        | cons a b => exact ⟨a, b, rfl⟩
      have h1 := (T.word w0 (by rw [e]; simp)).ne
      rw [e, List.flatten_cons, List.length_append]
      have : 0 < w0.length := List.length_pos_iff.mpr h1
      omega
    have klt := startsFrom_lt 0 ws
    rw [Nat.zero_add] at klt
    exact sup_tail c2 (by omega) tl u1 (startsFrom_len 0 ws) klt nd gv St q
  rcases h with ⟨ws, ⟨kd, wa, wvs, rfl, hwa, hwp⟩, T, ok, q⟩ | ⟨ws, wa, kd, wvs, v, rfl, hwa, G, hw, hv, bv, hE⟩ | ⟨hs, hE⟩
  · have hwl := Paired.len hwp
    refine ⟨_, rfl, _, rfl, true, seq_of hwa, fun H1 s1 => ⟨true, rfl, if_f rfl ?_⟩⟩
    exact main wa kd wvs ws H1 s1 hwa T.good (fun i wd h => Paired.get hwp h) (by omega) (fun h => by omega) fun _ => ⟨T, ok, q⟩
  · have hlt := (List.getElem?_eq_some_iff.mp hv).1
    refine ⟨_, rfl, _, rfl, true, seq_of hwa, fun H1 s1 => ⟨true, rfl, if_f rfl ?_⟩⟩
    exact main wa kd wvs ws H1 s1 hwa G hw (by omega) (fun _ => ⟨⟨v, hv, bv⟩, hE⟩) fun h => by omega
  · refine ⟨_, rfl, _, rfl, false, hs, fun H1 s1 => ⟨false, rfl, if_t rfl ?_⟩⟩
    exact ⟨1, rfl, _, rfl, fun d nd => hE d _ (s1.trans (same_new nd)) upd_same⟩
end
end K24
set_option Elab.async false
set_option linter.all false
set_option maxRecDepth 100000
set_option maxHeartbeats 4000000
/-! _law_refused -/
namespace K24
open PySem PySem.Spec PyProof.Rows L2
abbrev N_law_refused : List Str := ["_law_cells", "_law_words", "e"]
theorem sc_law_refused : FnScope N_law_refused ["_law_cells", "_law_words"] (defScope s_law_refused) := ⟨rfl, rfl, rfl, by decide +kernel, rfl, by decide +kernel, by decide +kernel⟩
/-- a def that may raise, at x -/
structure CalX (P : Program) (w : World) (K : PySem.W.Frag) (mg : Str → Option Value) (base : Heap) (k : Nat) (x : Str) (ps : List Str) (sp : Sp) : Prop where
  ex : ∃ (f : Addr) (fd : FuncData), FnOk P w K mg base (L2.CX P w) k f fd ps sp ∧ mg x = some (.ref f) ∧ PySem.W.keepIn K (.ref f) = true ∧ Binds K fd ps []
section
variable {P : Program} {w : World} {K : PySem.W.Frag} {mg : Str → Option Value}
def t_refS (C : Addr) : Addr → Value → Option Addr → TS := fun a cls d => tRet (tAtRf C a cls d (tVar 2))
def t_refT (K : PySem.W.Frag) (sp : Sp) : TS := fun D σ H => tDrop (tCallS sp (WE (wAs K (.ref (cR K)) 2 (t_refS (cR K)) (fun _ _ _ _ => False) D)) (tCons (tVar 0) (tCons (tVar 1) tNil))) D σ H
def t_law_refused (K : PySem.W.Frag) (sp : Sp) : TS := tSeq (t_refT K sp) (tRet (tC (.str "none")))
theorem dv_law_refused {base : Heap} {fI cc cda : Addr} {sp : Sp} {kk : Nat} (T : RfTxt P K mg (cR K) fI cc cda) (C : CalX P w K mg base kk "superword_house" ["cells", "words"] sp) {cdv : Value} {A : Around} {outer : List Env} {s : Shared} {H : Hp} {E : XK} {f : Addr} (hr : Room kk (A.deeper (envOfC "_law_refused" (defScope s_law_refused) s.heap.objs.size f cdv))) :
    PSs (cxOf CX0 P w K mg base N_law_refused "_law_refused" (defScope s_law_refused) f cdv A outer s H E) (defBody s_law_refused) (t_law_refused K sp) := by
  obtain ⟨fS, fdS, F, gS, kS, bS⟩ := C.ex
  exact pss_cons (ps_try_as (i := 2) (tb := fun W => tDrop (tCallS sp (WE W) (tCons (tVar 0) (tCons (tVar 1) tNil)))) (ts := t_refS (cR K)) (Wout := fun _ _ _ _ => False) rfl rfl sc_law_refused.nd rfl rfl ⟨rfl, by decide, Or.inl T.gC⟩ takes0
      (fun W pn xe tk _ => pss_one (ps_expr (by exact (pe_callS F hr rfl gS kS bS (fun σ => passAt tk σ) (by exact (pa_cons (pv 0) (pa_cons (pv 1) pa_nil)))))))
      (fun a oe cls d pn hz hf => pss_one (ps_ret (by exact (pe_atRf T hz hf (pv 2))))))
    (pss_one (ps_ret pe_str))
def Refuses (K : PySem.W.Frag) (c : Nat) (H : Hp) (wv : V) (at_ : Int) : Prop :=
  (∃ (ws : List (List Nat)) (wa : Addr) (kd : Kd) (wvs : List V) (v : V), wv = .ref wa ∧ H wa = some (kd.ho wvs) ∧ GoodWs c ws ∧ (∀ (i : Nat) (wd : List Nat), ws[i]? = some wd → ∃ v, wvs[i]? = some v ∧ LN H v wd) ∧ wvs[ws.length]? = some v ∧ BadW c H v ∧ at_ = ws.length) ∨
  (IsSeq H wv false ∧ at_ = -1)
def sp_law_refused (K : PySem.W.Frag) : Sp := S2 fun cv wv H Q _ => ∃ (c : Nat) (at_ : Int), cv = nV c ∧ 2 ≤ c ∧ c ≤ 4 ∧ Refuses K c H wv at_ ∧ ∀ H', Same H H' → Q (.int at_) H'
theorem rd_law_refused {fI cc cda : Addr} (T : RfTxt P K mg (cR K) fI cc cda) {vs : List V} {H : Hp} {Q : VK} {E : XK} (h : sp_law_refused K vs H Q E) :
    t_law_refused K (sp_superword_house K) (Dn Q) (start N_law_refused vs) H := by
  obtain ⟨cv, wv, rfl, c, at_, rfl, c2, c4, hr, q⟩ := h
  have eb : ∀ Nx : Ends, Nx.rt = Q → EBad K (WE (wAs K (.ref (cR K)) 2 (t_refS (cR K)) (fun _ _ _ _ => False) Nx) [some (nV c), some wv, none]) H at_ := fun Nx hN d H' s e =>
    ⟨true, T.te, fun _ a _ => ⟨_, rfl, rfl, rfl, d, _, rfl, e, by show Nx.rt _ _; rw [hN]; exact q _ s⟩, fun z => nomatch z⟩
  refine ⟨_, rfl, _, rfl, ?_⟩
  refine ⟨_, _, rfl, c, rfl, c2, c4, .inr ?_⟩
  rcases hr with ⟨ws, wa, kd, wvs, v, e, hwa, G, hw, hv, bv, ea⟩ | ⟨hs, ea⟩
  · refine .inl ⟨ws, wa, kd, wvs, v, e, hwa, G, hw, hv, bv, ?_⟩
    rw [← ea]
    exact eb _ rfl
  · refine .inr ⟨hs, ?_⟩
    rw [← ea]
    exact eb _ rfl
end
end K24
set_option Elab.async false
set_option linter.all false
set_option maxRecDepth 100000
set_option maxHeartbeats 4000000
/-! calls by keywords -/
namespace K24
open PySem PySem.Spec PyProof.Rows L2
def g2 {α : Type} : List α → List α → List α
  | [], [a, b] => [b, a]
  | _, _ => []
def g6 {α : Type} : List α → List α → List α
  | [], [l, h, a, r, v, q] => [h, v, q, a, r, l]
  | _, _ => []
abbrev ks_superword_house : List Str := ["words", "cells"]
abbrev ks_has_scattered : List Str := ["lesser", "word"]
abbrev ks_count_words : List Str := ["length", "house", "answer", "row", "view", "question"]
abbrev gV_superword_house : List V → List V → List V := g2
abbrev gV_has_scattered : List V → List V → List V := g2
abbrev gV_count_words : List V → List V → List V := g6
structure CalK (P : Program) (w : World) (K : PySem.W.Frag) (mg : Str → Option Value) (base : Heap) (k : Nat) (x : Str) (ks : List Str) (gV : List V → List V → List V) (sp : Sp) : Prop where
  ex : ∃ (f : Addr) (fd : FuncData) (ps : List Str) (g : List Value → List Value → List Value), FnOk P w K mg base CX0 k f fd ps sp ∧ mg x = some (.ref f) ∧ PySem.W.keepIn K (.ref f) = true ∧ KBinds K fd ps ks g gV
section
variable {X : Cx} {j k : Nat} {ks : List Str} {sp : Sp} {x : Str} {p pos : Pos} {kws : List Keyword} {tk : TA} {gV : List V → List V → List V}
theorem pe_k (c : CalK X.prog X.w X.K X.mg X.base k x ks gV sp) (hr : Room j X.A) (hk : k ≤ j) (hg : Gl X x)
    (hkw : PK X kws tk) (hall : (backToKw pos (keywordEach kws X.env)).all (·.1.isSome) = true := by rfl) (hks : (backToKw pos (keywordEach kws X.env)).filterMap (·.1) = ks := by rfl)
    (hdb : (x == ("__debug__" : Str)) = false := by decide)
    (hpl : ((backTo pos (starEach [] X.env)).any (·.1) || (backToKw pos (keywordEach kws X.env)).any (·.1.isNone)) = false := by rfl) :
    PE X (.Call (.Name x p) [] kws pos) (tCallK sp gV E0 tNil tk) := by
  obtain ⟨f, fd, ps, g, F, hm, kp, b⟩ := c.ex
  exact pe_callK0 F (hr.mono hk) hg hm kp b pass0 hkw hall hks hdb hpl
end
theorem g2_rel {vs : List V} {us : List Value} {zs : List V} {ws : List Value} (h1 : Vals vs us) (h2 : Vals zs ws) : Vals (g2 vs zs) (g2 us ws) := by
  cases h1 with
  | nil =>
    cases h2 with
    | nil => exact .nil
    | cons a r =>
      cases r with
      | nil => exact .nil
      | cons b r =>
        cases r with
        | nil => exact .cons b (.cons a .nil)
        | cons c r => exact .nil
  | cons a r => exact .nil
theorem g6_rel {vs : List V} {us : List Value} {zs : List V} {ws : List Value} (h1 : Vals vs us) (h2 : Vals zs ws) : Vals (g6 vs zs) (g6 us ws) := by
  cases h1 with
  | cons a r => exact .nil
  | nil =>
    cases h2 with
    | nil => exact .nil
    | cons a1 r =>
      cases r with
      | nil => exact .nil
      | cons a2 r =>
        cases r with
        | nil => exact .nil
        | cons a3 r =>
          cases r with
          | nil => exact .nil
          | cons a4 r =>
            cases r with
            | nil => exact .nil
            | cons a5 r =>
              cases r with
              | nil => exact .nil
              | cons a6 r =>
                cases r with
                | nil => exact .cons a2 (.cons a5 (.cons a6 (.cons a3 (.cons a4 (.cons a1 .nil)))))
                | cons a7 r => exact .nil
section
variable {P : Program} {w : World} {K : PySem.W.Frag} {mg : Str → Option Value} {base : Heap}
theorem kb2 {x : Str} {st : Stmt} {f : Addr} {fd : FuncData} {p1 p2 k1 k2 : Str} (F : FnP K x st f fd)
    (h : ∀ (kV doc pm : Value) (an : Option Addr) (cdv ct a b : Value), bindArgs (PySem.W.fnOf x x (defArgs st) (defBody st) (defScope st) .none kV doc pm an cdv ct) ⟨[], [(k1, a), (k2, b)]⟩ = pure [(p1, b), (p2, a)]) : KBinds K fd [p1, p2] [k1, k2] g2 g2 := by
  obtain ⟨oc, od, dV, kV, doc, pm, an, cdv, ct, osl, rfl, lk, hcd, hD, hK⟩ := F.ex
  rcases hD with ⟨_, rfl⟩ | ⟨e, _⟩
  · refine ⟨fun s us ws X hl => ?_, g2_rel⟩
    match us, ws, hl with
    | [], [a, b], _ => exact BindsTo.of_eq (h kV doc pm an cdv ct a b)
  · exact absurd rfl e
theorem kb6 {x : Str} {st : Stmt} {f : Addr} {fd : FuncData} {p1 p2 p3 p4 p5 p6 k1 k2 k3 k4 k5 k6 : Str} (F : FnP K x st f fd)
    (h : ∀ (kV doc pm : Value) (an : Option Addr) (cdv ct l hh a r v q : Value), bindArgs (PySem.W.fnOf x x (defArgs st) (defBody st) (defScope st) .none kV doc pm an cdv ct) ⟨[], [(k1, l), (k2, hh), (k3, a), (k4, r), (k5, v), (k6, q)]⟩ = pure [(p1, hh), (p2, v), (p3, q), (p4, a), (p5, r), (p6, l)]) : KBinds K fd [p1, p2, p3, p4, p5, p6] [k1, k2, k3, k4, k5, k6] g6 g6 := by
  obtain ⟨oc, od, dV, kV, doc, pm, an, cdv, ct, osl, rfl, lk, hcd, hD, hK⟩ := F.ex
  rcases hD with ⟨_, rfl⟩ | ⟨e, _⟩
  · refine ⟨fun s us ws X hl => ?_, g6_rel⟩
    match us, ws, hl with
    | [], [l, hh, a, r, v, q], _ => exact BindsTo.of_eq (h kV doc pm an cdv ct l hh a r v q)
  · exact absurd rfl e
/-- a def that may raise, where it does not -/
theorem fn_calm {k : Nat} {f : Addr} {fd : FuncData} {ps : List Str} {sp : Sp} (F : FnOk P w K mg base (L2.CX P w) k f fd ps sp) : FnOk P w K mg base CX0 k f fd ps (fun vs H Q _ => sp vs H Q E0) := by
  refine ⟨fun vs H Q E h => F.len vs H Q E0 h, fun A outer s H args us vs Q E hr he hb hv hs => codeAny_mono (F.run A outer s H args us vs Q E0 hr he hb hv hs) fun r s' hq => ?_⟩
  cases r with
  | ok fl => cases fl <;> exact hq
  | error e =>
    obtain ⟨_, _, _, _, _, _, _, _, _, _, _, _, z⟩ := hq
    exact z.elim
end
end K24
set_option Elab.async false
set_option linter.all false
set_option maxRecDepth 100000
set_option maxHeartbeats 4000000
namespace K24
open PySem PySem.Spec PyProof.Rows L2
abbrev N_law : List Str := ["_law_script", "_law_deal", "_law_cells", "_law_words", "_law_house", "_law_question", "_law_sizes", "_law_rows", "_law_pairs", "_law_view", "_law_row", "_law_counts", "_law_best", "_law_turn", "_law_word_here", "_law_state", "_law_cell", "_law_lived", "_law_at", "_law_length", "_law_said", "_law_wrong"]
theorem sc_law : FnScope N_law ["_law_script"] (defScope s_law) := ⟨rfl, rfl, rfl, by decide +kernel, rfl, by decide +kernel, by decide +kernel⟩
def t_law (P : Program) (w : World) (K : PySem.W.Frag) (sp_law_dealt : Sp) (sp_law_told_words : Sp) (sp_superword_house : Sp) (sp_law_built : Sp) (sp_law_most : Sp) (sp_law_any : Sp) (sp_count_words : Sp) (sp_law_of : Sp) (sp_cell_view : Sp) (sp_fewest_looks : Sp) (sp_Houseinit : Sp) (sp_law_word : Sp) (sp_law_moved : Sp) (sp_word_settles : Sp) (sp_law_refused : Sp) (sp_shortest_word : Sp) (sp_has_scattered : Sp) (sp_Houseeq : Sp) : TS := (tSeq (tAsg (tCall sp_law_dealt [] E0 (tCons (tVar 0) (tCons (tC (.int 24)) tNil))) (gName 1))
  (tSeq (tAsg (tOp (rI0 fun i j => .int (i + j)) (tC (.int 2)) (tCall sp_law_any [] E0 (tCons (tVar 1) (tCons (tC (.int 3)) tNil)))) (gName 2))
  (tSeq (tAsg (tCall sp_law_told_words [] E0 (tCons (tVar 1) (tCons (tVar 2) tNil))) (gName 3))
  (tSeq (tAsg (tCallK sp_superword_house gV_superword_house E0 tNil (tCons (tVar 3) (tCons (tVar 2) tNil))) (gTup K 2 (gCons (gName 4) (gCons (gName 5) gNil))))
  (tSeq (tAsg (tCall sp_law_built [] E0 (tCons (tVar 2) (tCons (tVar 3) tNil))) (gLst K 3 (gCons (gName 6) (gCons (gName 7) (gCons (gName 8) gNil)))))
  (tSeq (tIfS (tTest (tOp rNe (tCB (rRepr K) (tCons (tLst (tCons (tFld K (tVar 4) "sizes") (tCons (tFld K (tVar 4) "standings") (tCons (tFld K (tVar 4) "changes") tNil)))) tNil)) (tCB (rRepr K) (tCons (tLst (tCons (tVar 6) (tCons (tVar 7) (tCons (tVar 8) tNil)))) tNil)))) (tRet (tC (.bl false))) tNext)
  (tSeq (tIfS (tTest (tOp rNe (tCB (rRepr K) (tCons (tVar 5) tNil)) (tCB (rRepr K) (tCons (tOp (rCatA K) (tTup (tCons (tC (.int 0)) tNil)) (tOp (rRepT1 K) (tTup (tCons (tC (.int 1)) tNil)) (tOp (rI0 fun i j => .int (i - j)) (tCB (rLn K) (tCons (tVar 7) tNil)) (tC (.int 1))))) tNil)))) (tRet (tC (.bl false))) tNext)
  (tSeq (tIfS (tNot (tTest (tOp (rEqH (cH K) sp_Houseeq) (tOp (rIxT K) (tCall sp_superword_house [] E0 (tCons (tVar 2) (tCons (tThen (tVar 3) (kTup K)) tNil))) (tC (.int 0))) (tMake (cH K) sp_Houseinit [] E0 (tCons (tVar 6) (tCons (tVar 7) (tCons (tVar 8) tNil))))))) (tRet (tC (.bl false))) tNext)
  (tSeq (tPar 9 10 (tCons (tCall sp_cell_view [] E0 (tCons (tVar 4) tNil)) (tCons (tOp (rRepT1 K) (tTup (tCons (tTup (tCons (tC (.int 0)) tNil)) tNil)) (tVar 2)) tNil)))
  (tSeq (tAsg (tCall sp_law_most [] E0 (tCons (tVar 3) (tCons (tVar 2) (tCons (tC (.int 12)) tNil)))) (gLst K 2 (gCons (gName 11) (gCons (gName 12) gNil))))
  (tSeq (tIfS (tOr (tTest (tOp rIsNo (tVar 12) (tC (.non)))) (tTest (tOp rNe (tCB (rRepr K) (tCons (tCall sp_shortest_word [] E0 (tCons (tVar 4) (tCons (tVar 9) (tCons (tVar 5) (tCons (tC (.int 0)) (tCons (tVar 10) tNil)))))) tNil)) (tCB (rRepr K) (tCons (tVar 12) tNil))))) (tRet (tC (.bl false))) tNext)
  (tSeq (tIfS (tTest (tOp rNe (tCall sp_fewest_looks [] E0 (tCons (tVar 4) (tCons (tVar 9) (tCons (tVar 5) (tCons (tC (.int 0)) (tCons (tVar 10) tNil)))))) (tCB (rLn K) (tCons (tVar 12) tNil)))) (tRet (tC (.bl false))) tNext)
  (tSeq (tFor (iRng1 (tCons (tC (.int 4)) tNil)) (gName 13) (tSeq (tAsg (tTup (tCons (tCall sp_law_word [] E0 (tCons (tVar 1) (tCons (tVar 2) (tCons (tC (.int 9)) tNil)))) (tCons (tThen (tOp rRep (tLst (tCons (tC (.int 0)) tNil)) (tCB (rLn K) (tCons (tVar 3) tNil))) (kTup K)) tNil))) (gTup K 2 (gCons (gName 14) (gCons (gName 15) gNil))))
  (tSeq (tFor (iSeq K (tVar 14)) (gName 16) (tAsg (tCall sp_law_moved [] E0 (tCons (tVar 3) (tCons (tVar 15) (tCons (tVar 16) tNil)))) (gName 15)))
  (tSeq (tAsg (tLc (iRng1 (tCons (tCB (rLn K) (tCons (tVar 3) tNil)) tNil)) (gName 18) (tTest (tOp (rI0 fun i j => .bl (decide (i < j))) (tOp (rIxT K) (tVar 15) (tVar 18)) (tCB (rLn K) (tCons (tOp (rIxL K) (tVar 3) (tVar 18)) tNil)))) (tVar 18) [18]) (gName 17))
  (tSeq (tIfS (tTest (tOp rNe (tCall sp_word_settles [] E0 (tCons (tVar 4) (tCons (tVar 9) (tCons (tVar 5) (tCons (tC (.int 0)) (tCons (tVar 10) (tCons (tVar 14) tNil))))))) (tOp (rEqD K) (tVar 17) (tLst tNil)))) (tRet (tC (.bl false))) tNext)
  (tFor (iRng1 (tCons (tCB (rLn K) (tCons (tVar 3) tNil)) tNil)) (gName 18) (tIfS (tTest (tOp rNe (tCB (rRepr K) (tCons (tCallK sp_has_scattered gV_has_scattered E0 tNil (tCons (tOp (rIxL K) (tVar 3) (tVar 18)) (tCons (tVar 14) tNil))) tNil)) (tCB (rRepr K) (tCons (tOp (rIn K true) (tVar 18) (tVar 17)) tNil)))) (tRet (tC (.bl false))) tNext)))))))
  (tSeq (tAsg (tCall sp_law_any [] E0 (tCons (tVar 1) (tCons (tC (.int 13)) tNil))) (gName 19))
  (tSeq (tAsg (tCallK sp_count_words gV_count_words E0 tNil (tCons (tVar 19) (tCons (tVar 4) (tCons (tC (.int 0)) (tCons (tVar 10) (tCons (tVar 9) (tCons (tVar 5) tNil))))))) (gName 20))
  (tSeq (tIfS (tTest (tOp rNe (tCB (rRepr K) (tCons (tVar 20) tNil)) (tCB (rRepr K) (tCons (tOp (rIxL K) (tVar 11) (tVar 19)) tNil)))) (tRet (tC (.bl false))) tNext)
  (tSeq (tAsg (tCall sp_law_any [] E0 (tCons (tVar 1) (tCons (tOp (rI0 fun i j => .int (i + j)) (tCB (rLn K) (tCons (tVar 3) tNil)) (tC (.int 1))) tNil))) (gName 18))
  (tSeq (tAsg (tCall sp_law_of [] E0 (tCons (tVar 1) (tCons (tLst (tCons (tLst tNil) (tCons (tLst (tCons (tC (.int 0)) (tCons (tC (.int 0)) tNil))) (tCons (tLst (tCons (tC (.int 1)) (tCons (tC (.int 0)) (tCons (tC (.int 0)) tNil)))) (tCons (tLst (tCons (tVar 2) tNil)) (tCons (tLst (tCons (tOp (rI0 fun i j => .int (i - j)) (tC (.int 0)) (tC (.int 1))) tNil)) (tCons (tLst (tCons (tC (.bl true)) tNil)) (tCons (tC (.non)) (tCons (tC (.str "0")) (tCons (tC (.int 0)) (tCons (tOp rRep (tLst (tCons (tC (.int 0)) (tCons (tC (.int 1)) tNil))) (tC (.int 6))) tNil))))))))))) tNil))) (gName 21))
  (tSeq (tIfS (tTest (tOp rNe (tCB (rRepr K) (tCons (tCall sp_law_refused [] E0 (tCons (tVar 2) (tCons (tOp rCat (tOp rCat (tSl (rSlL K) (tVar 3) tNoPart (tPart (tVar 18))) (tLst (tCons (tVar 21) tNil))) (tLst (tCons (tLst tNil) tNil))) tNil))) tNil)) (tCB (rRepr K) (tCons (tVar 18) tNil)))) (tRet (tC (.bl false))) tNext)
  (tRet (tOp rEq (tCB (rRepr K) (tCons (tCall sp_law_refused [] E0 (tCons (tVar 2) (tCons (tCall sp_law_of [] E0 (tCons (tVar 1) (tCons (tLst (tCons (tC (.non)) (tCons (tC (.int 0)) (tCons (tC (.str "01")) (tCons (tC (.bl true)) tNil))))) tNil))) tNil))) tNil)) (tCB (rRepr K) (tCons (tOp (rI0 fun i j => .int (i - j)) (tC (.int 0)) (tC (.int 1))) tNil)))))))))))))))))))))))
theorem dv_law {P : Program} {w : World} {K : PySem.W.Frag} {mg : Str → Option Value} {base : Heap} (G : Gs K mg) {sp_law_dealt : Sp} {sp_law_told_words : Sp} {sp_superword_house : Sp} {sp_law_built : Sp} {sp_law_most : Sp} {sp_law_any : Sp} {sp_count_words : Sp} {sp_law_of : Sp} {sp_cell_view : Sp} {sp_fewest_looks : Sp} {sp_Houseinit : Sp} {sp_law_word : Sp} {sp_law_moved : Sp} {sp_word_settles : Sp} {sp_law_refused : Sp} {sp_shortest_word : Sp} {sp_has_scattered : Sp} {sp_Houseeq : Sp} (C_law_dealt : C8.Cal P w K mg base 1 "_law_dealt" sp_law_dealt []) (C_law_told_words : C8.Cal P w K mg base 3 "_law_told_words" sp_law_told_words []) (C_superword_house : C8.Cal P w K mg base 7 "superword_house" sp_superword_house []) (CK_superword_house : CalK P w K mg base 7 "superword_house" ks_superword_house gV_superword_house sp_superword_house) (C_law_built : C8.Cal P w K mg base 1 "_law_built" sp_law_built []) (C_law_most : C8.Cal P w K mg base 2 "_law_most" sp_law_most []) (C_law_any : C8.Cal P w K mg base 1 "_law_any" sp_law_any []) (CK_count_words : CalK P w K mg base 6 "count_words" ks_count_words gV_count_words sp_count_words) (C_law_of : C8.Cal P w K mg base 2 "_law_of" sp_law_of []) (C_cell_view : C8.Cal P w K mg base 2 "cell_view" sp_cell_view []) (C_fewest_looks : C8.Cal P w K mg base 7 "fewest_looks" sp_fewest_looks []) (C_Houseinit : C8.Mak P w K mg base 5 "House" (cH K) sp_Houseinit []) (C_law_word : C8.Cal P w K mg base 2 "_law_word" sp_law_word []) (C_law_moved : C8.Cal P w K mg base 1 "_law_moved" sp_law_moved []) (C_word_settles : C8.Cal P w K mg base 7 "word_settles" sp_word_settles []) (C_law_refused : C8.Cal P w K mg base 8 "_law_refused" sp_law_refused []) (C_shortest_word : C8.Cal P w K mg base 6 "shortest_word" sp_shortest_word []) (CK_has_scattered : CalK P w K mg base 4 "has_scattered" ks_has_scattered gV_has_scattered sp_has_scattered) (C_Houseeq : C8.Met P w K mg base 1 (cH K) "__eq__" sp_Houseeq []) {cdv : Value} {A : Around} {outer : List Env} {s : Shared} {H : Hp} {E : XK} {f : Addr} (hg : (A.deeper (envOfC "law" (defScope s_law) s.heap.objs.size f cdv)).guards = some []) (hr : Room 8 (A.deeper (envOfC "law" (defScope s_law) s.heap.objs.size f cdv))) :
    PSs (cxOf CX0 P w K mg base N_law "law" (defScope s_law) f cdv A outer s H E).nox (defBody s_law) (t_law P w K sp_law_dealt sp_law_told_words sp_superword_house sp_law_built sp_law_most sp_law_any sp_count_words sp_law_of sp_cell_view sp_fewest_looks sp_Houseinit sp_law_word sp_law_moved sp_word_settles sp_law_refused sp_shortest_word sp_has_scattered sp_Houseeq) := by
  have hu := hu_of hr
  have hu3 := hu2' hr
  have hu4 := hu64 hr
  have hu5 := hu65 hr
  exact (pss_cons (ps_set (i := 1) sc_law.nd (by rfl) (by exact .inl rfl) (C8.pe_c C_law_dealt hr (by decide) (by rfl) (pa_cons (pv 0) (pa_cons pe_int pa_nil))))
      (pss_cons (ps_set (i := 2) sc_law.nd (by rfl) (by exact .inl rfl) (pe_op op_add pe_int (C8.pe_c C_law_any hr (by decide) (by rfl) (pa_cons (pv 1) (pa_cons pe_int pa_nil)))))
      (pss_cons (ps_set (i := 3) sc_law.nd (by rfl) (by exact .inr rfl) (C8.pe_c C_law_told_words hr (by decide) (by rfl) (pa_cons (pv 1) (pa_cons (pv 2) pa_nil))))
      (pss_cons (ps_asg (pe_k CK_superword_house hr (by decide) (by rfl) (pk_cons (pv 3) (pk_cons (pv 2) pk_nil))) (pg_tup (by rfl) (pgs_cons (pg_name (i := 4) sc_law.nd (by rfl) (by exact .inl rfl) (hf := by exact .inl rfl)) (pgs_cons (pg_name (i := 5) sc_law.nd (by rfl) (by exact .inl rfl) (hf := by exact .inl rfl)) pgs_nil))))
      (pss_cons (ps_asg (C8.pe_c C_law_built hr (by decide) (by rfl) (pa_cons (pv 2) (pa_cons (pv 3) pa_nil))) (pg_lst (by rfl) (pgs_cons (pg_name (i := 6) sc_law.nd (by rfl) (by exact .inl rfl) (hf := by exact .inl rfl)) (pgs_cons (pg_name (i := 7) sc_law.nd (by rfl) (by exact .inl rfl) (hf := by exact .inl rfl)) (pgs_cons (pg_name (i := 8) sc_law.nd (by rfl) (by exact .inl rfl) (hf := by exact .inl rfl)) pgs_nil)))))
      (pss_cons (ps_if (pt_cmpR op_ne (pe_callB (call_reprD hg hu5) (by rfl) G.m_repr PyProof.Rows.boot_repr (pa_cons (pe_lst (pa_cons (pe_fld (pv 4) (by rfl)) (pa_cons (pe_fld (pv 4) (by rfl)) (pa_cons (pe_fld (pv 4) (by rfl)) pa_nil)))) pa_nil)) (pe_callB (call_reprD hg hu5) (by rfl) G.m_repr PyProof.Rows.boot_repr (pa_cons (pe_lst (pa_cons (pv 6) (pa_cons (pv 7) (pa_cons (pv 8) pa_nil)))) pa_nil)) (nomark _)) (pss_one (ps_ret pe_bl)) pss_nil)
      (pss_cons (ps_if (pt_cmpR op_ne (pe_callB (call_reprD hg hu5) (by rfl) G.m_repr PyProof.Rows.boot_repr (pa_cons (pv 5) pa_nil)) (pe_callB (call_reprD hg hu5) (by rfl) G.m_repr PyProof.Rows.boot_repr (pa_cons (pe_op op_catA (pe_tup (pa_cons pe_int pa_nil)) (pe_op op_repT1 (pe_tup (pa_cons pe_int pa_nil)) (pe_op op_sub (pe_callB (r := rLn K) call_len_seq (by rfl) G.m_len PySem.boot_len (pa_cons (pv 7) pa_nil)) pe_int))) pa_nil)) (nomark _)) (pss_one (ps_ret pe_bl)) pss_nil)
      (pss_cons (ps_if (pt_not (pt_cmpR (op_eqH C_Houseeq hr (by decide) G.nfH) (pe_ix ix_tup (C8.pe_c C_superword_house hr (by decide) (by rfl) (pa_cons (pv 2) (pa_cons (pe_tupleOf (by rfl) G.m_tuple (pv 3)) pa_nil))) pe_int (by exact fun _ _ => rfl)) (C8.pe_mk C_Houseinit hr (by decide) (by rfl) (pa_cons (pv 6) (pa_cons (pv 7) (pa_cons (pv 8) pa_nil)))) (nomark _))) (pss_one (ps_ret pe_bl)) pss_nil)
      (pss_cons (ps_par (i := 9) (j := 10) (by rfl) sc_law.nd (by rfl) (by rfl) (by decide) (by rfl) (by rfl) (pa_cons (C8.pe_c C_cell_view hr (by decide) (by rfl) (pa_cons (pv 4) pa_nil)) (pa_cons (pe_op op_repT1 (pe_tup (pa_cons (pe_tup (pa_cons pe_int pa_nil)) pa_nil)) (pv 2)) pa_nil)) (by kernel_rfl))
      (pss_cons (ps_asg (C8.pe_c C_law_most hr (by decide) (by rfl) (pa_cons (pv 3) (pa_cons (pv 2) (pa_cons pe_int pa_nil)))) (pg_lst (by rfl) (pgs_cons (pg_name (i := 11) sc_law.nd (by rfl) (by exact .inl rfl) (hf := by exact .inl rfl)) (pgs_cons (pg_name (i := 12) sc_law.nd (by rfl) (by exact .inl rfl) (hf := by exact .inl rfl)) pgs_nil))))
      (pss_cons (ps_if (PW.pt (pw_or (pt_cmpR op_isN (pv 12) pe_non (nomark _)) (pw_or1 (pt_cmpR op_ne (pe_callB (call_reprD hg hu5) (by rfl) G.m_repr PyProof.Rows.boot_repr (pa_cons (C8.pe_c C_shortest_word hr (by decide) (by rfl) (pa_cons (pv 4) (pa_cons (pv 9) (pa_cons (pv 5) (pa_cons pe_int (pa_cons (pv 10) pa_nil)))))) pa_nil)) (pe_callB (call_reprD hg hu5) (by rfl) G.m_repr PyProof.Rows.boot_repr (pa_cons (pv 12) pa_nil)) (nomark _))))) (pss_one (ps_ret pe_bl)) pss_nil)
      (pss_cons (ps_if (pt_cmpR op_ne (C8.pe_c C_fewest_looks hr (by decide) (by rfl) (pa_cons (pv 4) (pa_cons (pv 9) (pa_cons (pv 5) (pa_cons pe_int (pa_cons (pv 10) pa_nil)))))) (pe_callB (r := rLn K) call_len_seq (by rfl) G.m_len PySem.boot_len (pa_cons (pv 12) pa_nil)) (nomark _)) (pss_one (ps_ret pe_bl)) pss_nil)
      (pss_cons (ps_for PassesOwn.never (by rfl) (pi_range1 (by rfl) G.m_range (pa_cons pe_int pa_nil)) (pg_name (i := 13) sc_law.nd (by rfl) (by exact .inl rfl) (hf := by exact .inl rfl)) (pss_cons (ps_asg (pe_tup (pa_cons (C8.pe_c C_law_word hr (by decide) (by rfl) (pa_cons (pv 1) (pa_cons (pv 2) (pa_cons pe_int pa_nil)))) (pa_cons (pe_tupleOf (by rfl) G.m_tuple (pe_op op_rep (pe_lst (pa_cons pe_int pa_nil)) (pe_callB (r := rLn K) call_len_seq (by rfl) G.m_len PySem.boot_len (pa_cons (pv 3) pa_nil)))) pa_nil))) (pg_tup (by rfl) (pgs_cons (pg_name (i := 14) sc_law.nd (by rfl) (by exact .inl rfl) (hf := by exact .inl rfl)) (pgs_cons (pg_name (i := 15) sc_law.nd (by rfl) (by exact .inr rfl) (hf := by exact .inl rfl)) pgs_nil))))
      (pss_cons (ps_for PassesOwn.never (by rfl) (pi_seq (pv 14)) (pg_name (i := 16) sc_law.nd (by rfl) (by exact .inl rfl) (hf := by exact .inl rfl)) (pss_one (ps_set (i := 15) sc_law.nd (by rfl) (by exact .inr rfl) (C8.pe_c C_law_moved hr (by decide) (by rfl) (pa_cons (pv 3) (pa_cons (pv 15) (pa_cons (pv 16) pa_nil)))))))
      (pss_cons (ps_setLc (own := [("_law_at", 18)]) (i := 17) (g := (gName 18)) (tt := (tTest (tOp (rI0 fun i j => .bl (decide (i < j))) (tOp (rIxT K) (tVar 15) (tVar 18)) (tCB (rLn K) (tCons (tOp (rIxL K) (tVar 3) (tVar 18)) tNil))))) (te := (tVar 18)) (by rfl) sc_law.nd (by rfl) (by rfl) (sw_true (by rfl) (by rfl) (by rfl) (by decide +kernel)) (pi_range1 (by rfl) G.m_range (pa_cons (pe_callB (r := rLn K) call_len_seq (by rfl) G.m_len PySem.boot_len (pa_cons (pv 3) pa_nil)) pa_nil)) (blkOk_by (N := N_law) (sc := defScope s_law) (by decide +kernel)) (fun _ _ _ _ _ => (pg_name (i := 18) sc_law.nd (by rfl) (by exact .inl rfl) (hf := by exact .inr rfl))) (fun _ _ _ _ _ => (pts_one (pt_cmpR op_lt (pe_ix ix_tup (pv 15) (pv 18) (by exact fun _ _ => rfl)) (pe_callB (r := rLn K) call_len_seq (by rfl) G.m_len PySem.boot_len (pa_cons (pe_ix ix_list (pv 3) (pv 18) (by exact fun _ _ => rfl)) pa_nil)) (nomark _)))) (fun _ _ _ _ _ => (pv 18)))
      (pss_cons (ps_if (pt_cmpR op_ne (C8.pe_c C_word_settles hr (by decide) (by rfl) (pa_cons (pv 4) (pa_cons (pv 9) (pa_cons (pv 5) (pa_cons pe_int (pa_cons (pv 10) (pa_cons (pv 14) pa_nil))))))) (pe_cmpR (op_eqD hu4) (pv 17) (pe_lst pa_nil) (nomark _)) (nomark _)) (pss_one (ps_ret pe_bl)) pss_nil)
      (pss_one (ps_for PassesOwn.never (by rfl) (pi_range1 (by rfl) G.m_range (pa_cons (pe_callB (r := rLn K) call_len_seq (by rfl) G.m_len PySem.boot_len (pa_cons (pv 3) pa_nil)) pa_nil)) (pg_name (i := 18) sc_law.nd (by rfl) (by exact .inl rfl) (hf := by exact .inl rfl)) (pss_one (ps_if (pt_cmpR op_ne (pe_callB (call_reprD hg hu5) (by rfl) G.m_repr PyProof.Rows.boot_repr (pa_cons (pe_k CK_has_scattered hr (by decide) (by rfl) (pk_cons (pe_ix ix_list (pv 3) (pv 18) (by exact fun _ _ => rfl)) (pk_cons (pv 14) pk_nil))) pa_nil)) (pe_callB (call_reprD hg hu5) (by rfl) G.m_repr PyProof.Rows.boot_repr (pa_cons (pe_cmpR op_notIn_seq (pv 18) (pv 17) (by exact (by rfl))) pa_nil)) (nomark _)) (pss_one (ps_ret pe_bl)) pss_nil)))))))))
      (pss_cons (ps_set (i := 19) sc_law.nd (by rfl) (by exact .inl rfl) (C8.pe_c C_law_any hr (by decide) (by rfl) (pa_cons (pv 1) (pa_cons pe_int pa_nil))))
      (pss_cons (ps_set (i := 20) sc_law.nd (by rfl) (by exact .inl rfl) (pe_k CK_count_words hr (by decide) (by rfl) (pk_cons (pv 19) (pk_cons (pv 4) (pk_cons pe_int (pk_cons (pv 10) (pk_cons (pv 9) (pk_cons (pv 5) pk_nil))))))))
      (pss_cons (ps_if (pt_cmpR op_ne (pe_callB (call_reprD hg hu5) (by rfl) G.m_repr PyProof.Rows.boot_repr (pa_cons (pv 20) pa_nil)) (pe_callB (call_reprD hg hu5) (by rfl) G.m_repr PyProof.Rows.boot_repr (pa_cons (pe_ix ix_list (pv 11) (pv 19) (by exact fun _ _ => rfl)) pa_nil)) (nomark _)) (pss_one (ps_ret pe_bl)) pss_nil)
      (pss_cons (ps_set (i := 18) sc_law.nd (by rfl) (by exact .inl rfl) (C8.pe_c C_law_any hr (by decide) (by rfl) (pa_cons (pv 1) (pa_cons (pe_op op_add (pe_callB (r := rLn K) call_len_seq (by rfl) G.m_len PySem.boot_len (pa_cons (pv 3) pa_nil)) pe_int) pa_nil))))
      (pss_cons (ps_set (i := 21) sc_law.nd (by rfl) (by exact .inl rfl) (C8.pe_c C_law_of hr (by decide) (by rfl) (pa_cons (pv 1) (pa_cons (pe_lst (pa_cons (pe_lst pa_nil) (pa_cons (pe_lst (pa_cons pe_int (pa_cons pe_int pa_nil))) (pa_cons (pe_lst (pa_cons pe_int (pa_cons pe_int (pa_cons pe_int pa_nil)))) (pa_cons (pe_lst (pa_cons (pv 2) pa_nil)) (pa_cons (pe_lst (pa_cons (pe_op op_sub pe_int pe_int) pa_nil)) (pa_cons (pe_lst (pa_cons pe_bl pa_nil)) (pa_cons pe_non (pa_cons pe_str (pa_cons pe_int (pa_cons (pe_op op_rep (pe_lst (pa_cons pe_int (pa_cons pe_int pa_nil))) pe_int) pa_nil))))))))))) pa_nil))))
      (pss_cons (ps_if (pt_cmpR op_ne (pe_callB (call_reprD hg hu5) (by rfl) G.m_repr PyProof.Rows.boot_repr (pa_cons (C8.pe_c C_law_refused hr (by decide) (by rfl) (pa_cons (pv 2) (pa_cons (pe_op op_cat (pe_op op_cat (pe_slice sl_list (pv 3) po_none (po_some (pv 18))) (pe_lst (pa_cons (pv 21) pa_nil))) (pe_lst (pa_cons (pe_lst pa_nil) pa_nil))) pa_nil))) pa_nil)) (pe_callB (call_reprD hg hu5) (by rfl) G.m_repr PyProof.Rows.boot_repr (pa_cons (pv 18) pa_nil)) (nomark _)) (pss_one (ps_ret pe_bl)) pss_nil)
      (pss_one (ps_ret (pe_cmpR op_eq (pe_callB (call_reprD hg hu5) (by rfl) G.m_repr PyProof.Rows.boot_repr (pa_cons (C8.pe_c C_law_refused hr (by decide) (by rfl) (pa_cons (pv 2) (pa_cons (C8.pe_c C_law_of hr (by decide) (by rfl) (pa_cons (pv 1) (pa_cons (pe_lst (pa_cons pe_non (pa_cons pe_int (pa_cons pe_str (pa_cons pe_bl pa_nil))))) pa_nil))) pa_nil))) pa_nil)) (pe_callB (call_reprD hg hu5) (by rfl) G.m_repr PyProof.Rows.boot_repr (pa_cons (pe_op op_sub pe_int pe_int) pa_nil)) (nomark _)))))))))))))))))))))))
end K24
set_option Elab.async false
set_option linter.all false
set_option maxRecDepth 100000
set_option maxHeartbeats 4000000
/-! repr of small data -/
namespace K24
open PySem PySem.Spec PyProof.Rows L2
structure RB (d : PyData) (k B : Nat) : Prop where
  sh : d.showable = true
  nd : d.hasDict = false
  dep : d.depth ≤ k
  len : d.shown.length ≤ B
theorem len_num {n : Nat} (h : n < 10 ^ 10) : (PyData.shown (.int (n : Int))).length ≤ 10 := by
  simp only [PyData.shown]
  show (Str.ofString (toString ((n : Nat) : Int))).cps.size ≤ 10
  rw [← Array.length_toList, PySem.W.KIN.signs_num, List.length_map]
  have e := (Nat.length_repr_le_iff (n := n) (by decide : 0 < 10)).mpr h
  rwa [← String.length_toList, Nat.toList_repr] at e
theorem piled_le {ts : List Str} {B : Nat} (h : ∀ t ∈ ts, t.length ≤ B) : piled ts ≤ ts.length * (B + 2) := by
  induction ts with
  | nil => simp [piled]
  | cons t r ih =>
    have h1 := h t (by simp)
    have h2 := ih fun x hx => h x (List.mem_cons_of_mem _ hx)
    rw [piled_cons, List.length_cons, Nat.succ_mul]
    omega
theorem len_list (ts : List Str) : (listText ts).length ≤ piled ts + 2 := by
  cases ts with
  | nil => decide +kernel
  | cons t r =>
    show (textFrom 1 (("[" : Str) ++ ((if 0 > 0 then ", " else "" : String) : Str) ++ t) r ++ ("]" : Str)).length ≤ _
    rw [strLen_append, textFrom_length_pos _ _ _ (by decide), strLen_append, strLen_append, piled_cons]
    have h1 : ("[" : Str).length = 1 := by decide +kernel
    have h2 : ((if 0 > 0 then ", " else "" : String) : Str).length = 0 := by decide +kernel
    have h3 : ("]" : Str).length = 1 := by decide +kernel
    omega
theorem len_tuple (ts : List Str) : (tupleText ts).length ≤ piled ts + 3 := by
  unfold tupleText
  rw [strLen_append, strLen_append]
  have h1 : ("(" : Str).length = 1 := by decide +kernel
  have h2 : ((if ts.length == 1 then ",)" else ")" : String) : Str).length ≤ 2 := by
    split <;> decide +kernel
  have h3 : (Str.join ", " ts).length ≤ piled ts := by
    by_cases h : ts = []
    · subst h
      decide +kernel
    · have := join_length_add ts h
      omega
  omega
theorem rb_int {n : Nat} (h : n < 10 ^ 10) : RB (.int (n : Int)) 0 10 := by
  refine ⟨?_, by simp only [PyData.hasDict], by simp only [PyData.depth]; omega, len_num h⟩
  simp only [PyData.showable]
  refine decide_eq_true ?_
  rw [Int.natAbs_natCast]
  by_cases h0 : n = 0
  · subst h0; decide
  · have : n.log2 < 40 := (Nat.log2_lt h0).mpr (Nat.lt_trans h (by decide))
    omega
theorem rb_all {xs : List PyData} {k B : Nat} (h : ∀ x ∈ xs, RB x k B) : PyData.showableAll xs = true ∧ PyData.hasDictAll xs = false ∧ PyData.depthAll xs ≤ k ∧ (∀ t ∈ PyData.shownAll xs, t.length ≤ B) ∧ (PyData.shownAll xs).length = xs.length := by
  induction xs with
  | nil => exact ⟨by simp only [PyData.showableAll], by simp only [PyData.hasDictAll], by simp only [PyData.depthAll]; omega, (fun t ht => absurd (show t ∈ ([] : List Str) by simpa only [PyData.shownAll] using ht) List.not_mem_nil), by simp only [PyData.shownAll]; rfl⟩
  | cons x r ih =>
    obtain ⟨a1, a2, a3, a4, a5⟩ := ih fun y hy => h y (List.mem_cons_of_mem _ hy)
    have hx := h x (by simp)
    refine ⟨by simp only [PyData.showableAll]; rw [hx.sh, a1]; rfl, by simp only [PyData.hasDictAll]; rw [hx.nd, a2]; rfl, by simp only [PyData.depthAll]; exact Nat.max_le.mpr ⟨hx.dep, a3⟩, fun t ht => ?_, by simp only [PyData.shownAll, List.length_cons]; rw [a5]⟩
    simp only [PyData.shownAll] at ht
    rcases List.mem_cons.mp ht with rfl | ht
    · exact hx.len
    · exact a4 t ht
theorem rb_tup {xs : List PyData} {k B m : Nat} (h : ∀ x ∈ xs, RB x k B) (hm : xs.length ≤ m) : RB (.tuple xs) (k + 1) (m * (B + 2) + 3) := by
  obtain ⟨a1, a2, a3, a4, a5⟩ := rb_all h
  refine ⟨by simp only [PyData.showable]; exact a1, by simp only [PyData.hasDict]; exact a2, by simp only [PyData.depth]; omega, ?_⟩
  simp only [PyData.shown]
  have h1 := len_tuple (PyData.shownAll xs)
  have h2 := piled_le a4
  rw [a5] at h2
  have h3 := Nat.mul_le_mul_right (B + 2) hm
  omega
theorem rb_lst {xs : List PyData} {k B m : Nat} (h : ∀ x ∈ xs, RB x k B) (hm : xs.length ≤ m) : RB (.list xs) (k + 1) (m * (B + 2) + 3) := by
  obtain ⟨a1, a2, a3, a4, a5⟩ := rb_all h
  refine ⟨by simp only [PyData.showable]; exact a1, by simp only [PyData.hasDict]; exact a2, by simp only [PyData.depth]; omega, ?_⟩
  simp only [PyData.shown]
  have h1 := len_list (PyData.shownAll xs)
  have h2 := piled_le a4
  rw [a5] at h2
  have h3 := Nat.mul_le_mul_right (B + 2) hm
  omega
theorem rb_N {ns : List Nat} (h : ∀ x ∈ ns, x < 10 ^ 10) (hl : ns.length ≤ 20) : RB (dN ns) 1 243 := by
  refine rb_tup (B := 10) (m := 20) (fun x hx => ?_) (by rw [List.length_map]; exact hl)
  obtain ⟨n, hn, rfl⟩ := List.mem_map.mp hx
  exact rb_int (h n hn)
theorem rb_NN {nss : List (List Nat)} (h : ∀ ns ∈ nss, (∀ x ∈ ns, x < 10 ^ 10) ∧ ns.length ≤ 20) (hl : nss.length ≤ 20) : RB (dNN nss) 2 4903 := by
  refine rb_tup (B := 243) (m := 20) (fun x hx => ?_) (by rw [List.length_map]; exact hl)
  obtain ⟨n, hn, rfl⟩ := List.mem_map.mp hx
  exact rb_N (h n hn).1 (h n hn).2
theorem RB.mono {d : PyData} {k k' B B' : Nat} (h : RB d k B) (hk : k ≤ k') (hB : B ≤ B') : RB d k' B' := ⟨h.sh, h.nd, Nat.le_trans h.dep hk, Nat.le_trans h.len hB⟩
section
variable {K : PySem.W.Frag}
theorem repr_of {H : Hp} {v : V} {d : PyData} {k B : Nat} {Q : VK} (hd : Dp K H v d) (r : RB d k B) (hk : k ≤ 64) (hB : B ≤ 1000000) (ns : ∀ x, d ≠ .str x) (q : Q (.str d.shown) H) : rRepr K [v] H Q := by
  refine ⟨v, d, rfl, hd, r.sh, r.nd, Nat.le_trans r.dep hk, Nat.le_trans r.len (Nat.le_trans hB (by decide)), fun i e => ?_, ns, q⟩
  subst e
  have := r.sh
  simp only [PyData.showable] at this
  exact of_decide_eq_true this
end
end K24
set_option Elab.async false
set_option linter.all false
set_option maxRecDepth 100000
set_option maxHeartbeats 4000000
/-! the law's body, read in stages -/
namespace K24
open PySem PySem.Spec PyProof.Rows L2
def sp_sup0 (K : PySem.W.Frag) : Sp := fun vs H Q _ => sp_superword_house K vs H Q E0
def tL19 (K : PySem.W.Frag) : TS := (tRet (tOp rEq (tCB (rRepr K) (tCons (tCall (sp_law_refused K) [] E0 (tCons (tVar 2) (tCons (tCall sp_law_of [] E0 (tCons (tVar 1) (tCons (tLst (tCons (tC (.non)) (tCons (tC (.int 0)) (tCons (tC (.str "01")) (tCons (tC (.bl true)) tNil))))) tNil))) tNil))) tNil)) (tCB (rRepr K) (tCons (tOp (rI0 fun i j => .int (i - j)) (tC (.int 0)) (tC (.int 1))) tNil))))
def tL18 (K : PySem.W.Frag) : TS := tSeq (tIfS (tTest (tOp rNe (tCB (rRepr K) (tCons (tCall (sp_law_refused K) [] E0 (tCons (tVar 2) (tCons (tOp rCat (tOp rCat (tSl (rSlL K) (tVar 3) tNoPart (tPart (tVar 18))) (tLst (tCons (tVar 21) tNil))) (tLst (tCons (tLst tNil) tNil))) tNil))) tNil)) (tCB (rRepr K) (tCons (tVar 18) tNil)))) (tRet (tC (.bl false))) tNext) (tL19 K)
def tL17 (K : PySem.W.Frag) : TS := tSeq (tAsg (tCall sp_law_of [] E0 (tCons (tVar 1) (tCons (tLst (tCons (tLst tNil) (tCons (tLst (tCons (tC (.int 0)) (tCons (tC (.int 0)) tNil))) (tCons (tLst (tCons (tC (.int 1)) (tCons (tC (.int 0)) (tCons (tC (.int 0)) tNil)))) (tCons (tLst (tCons (tVar 2) tNil)) (tCons (tLst (tCons (tOp (rI0 fun i j => .int (i - j)) (tC (.int 0)) (tC (.int 1))) tNil)) (tCons (tLst (tCons (tC (.bl true)) tNil)) (tCons (tC (.non)) (tCons (tC (.str "0")) (tCons (tC (.int 0)) (tCons (tOp rRep (tLst (tCons (tC (.int 0)) (tCons (tC (.int 1)) tNil))) (tC (.int 6))) tNil))))))))))) tNil))) (gName 21)) (tL18 K)
def tL16 (K : PySem.W.Frag) : TS := tSeq (tAsg (tCall sp_law_any [] E0 (tCons (tVar 1) (tCons (tOp (rI0 fun i j => .int (i + j)) (tCB (rLn K) (tCons (tVar 3) tNil)) (tC (.int 1))) tNil))) (gName 18)) (tL17 K)
def tL15 (K : PySem.W.Frag) : TS := tSeq (tIfS (tTest (tOp rNe (tCB (rRepr K) (tCons (tVar 20) tNil)) (tCB (rRepr K) (tCons (tOp (rIxL K) (tVar 11) (tVar 19)) tNil)))) (tRet (tC (.bl false))) tNext) (tL16 K)
def tL14 (K : PySem.W.Frag) : TS := tSeq (tAsg (tCallK (sp_count_words K) g6 E0 tNil (tCons (tVar 19) (tCons (tVar 4) (tCons (tC (.int 0)) (tCons (tVar 10) (tCons (tVar 9) (tCons (tVar 5) tNil))))))) (gName 20)) (tL15 K)
def tL13 (K : PySem.W.Frag) : TS := tSeq (tAsg (tCall sp_law_any [] E0 (tCons (tVar 1) (tCons (tC (.int 13)) tNil))) (gName 19)) (tL14 K)
def tL12 (K : PySem.W.Frag) : TS := tSeq (tFor (iRng1 (tCons (tC (.int 4)) tNil)) (gName 13) (tSeq (tAsg (tTup (tCons (tCall sp_law_word [] E0 (tCons (tVar 1) (tCons (tVar 2) (tCons (tC (.int 9)) tNil)))) (tCons (tThen (tOp rRep (tLst (tCons (tC (.int 0)) tNil)) (tCB (rLn K) (tCons (tVar 3) tNil))) (kTup K)) tNil))) (gTup K 2 (gCons (gName 14) (gCons (gName 15) gNil))))
  (tSeq (tFor (iSeq K (tVar 14)) (gName 16) (tAsg (tCall sp_law_moved [] E0 (tCons (tVar 3) (tCons (tVar 15) (tCons (tVar 16) tNil)))) (gName 15)))
  (tSeq (tAsg (tLc (iRng1 (tCons (tCB (rLn K) (tCons (tVar 3) tNil)) tNil)) (gName 18) (tTest (tOp (rI0 fun i j => .bl (decide (i < j))) (tOp (rIxT K) (tVar 15) (tVar 18)) (tCB (rLn K) (tCons (tOp (rIxL K) (tVar 3) (tVar 18)) tNil)))) (tVar 18) [18]) (gName 17))
  (tSeq (tIfS (tTest (tOp rNe (tCall (sp_word_settles K) [] E0 (tCons (tVar 4) (tCons (tVar 9) (tCons (tVar 5) (tCons (tC (.int 0)) (tCons (tVar 10) (tCons (tVar 14) tNil))))))) (tOp (rEqD K) (tVar 17) (tLst tNil)))) (tRet (tC (.bl false))) tNext)
  (tFor (iRng1 (tCons (tCB (rLn K) (tCons (tVar 3) tNil)) tNil)) (gName 18) (tIfS (tTest (tOp rNe (tCB (rRepr K) (tCons (tCallK sp_has_scattered g2 E0 tNil (tCons (tOp (rIxL K) (tVar 3) (tVar 18)) (tCons (tVar 14) tNil))) tNil)) (tCB (rRepr K) (tCons (tOp (rIn K true) (tVar 18) (tVar 17)) tNil)))) (tRet (tC (.bl false))) tNext))))))) (tL13 K)
def tL11 (K : PySem.W.Frag) : TS := tSeq (tIfS (tTest (tOp rNe (tCall (sp_fewest_looks K) [] E0 (tCons (tVar 4) (tCons (tVar 9) (tCons (tVar 5) (tCons (tC (.int 0)) (tCons (tVar 10) tNil)))))) (tCB (rLn K) (tCons (tVar 12) tNil)))) (tRet (tC (.bl false))) tNext) (tL12 K)
def tL10 (K : PySem.W.Frag) : TS := tSeq (tIfS (tOr (tTest (tOp rIsNo (tVar 12) (tC (.non)))) (tTest (tOp rNe (tCB (rRepr K) (tCons (tCall (sp_shortest_word K) [] E0 (tCons (tVar 4) (tCons (tVar 9) (tCons (tVar 5) (tCons (tC (.int 0)) (tCons (tVar 10) tNil)))))) tNil)) (tCB (rRepr K) (tCons (tVar 12) tNil))))) (tRet (tC (.bl false))) tNext) (tL11 K)
def tL9 (K : PySem.W.Frag) : TS := tSeq (tAsg (tCall sp_law_most [] E0 (tCons (tVar 3) (tCons (tVar 2) (tCons (tC (.int 12)) tNil)))) (gLst K 2 (gCons (gName 11) (gCons (gName 12) gNil)))) (tL10 K)
def tL8 (K : PySem.W.Frag) : TS := tSeq (tPar 9 10 (tCons (tCall (sp_cell_view K) [] E0 (tCons (tVar 4) tNil)) (tCons (tOp (rRepT1 K) (tTup (tCons (tTup (tCons (tC (.int 0)) tNil)) tNil)) (tVar 2)) tNil))) (tL9 K)
def tL7 (K : PySem.W.Frag) : TS := tSeq (tIfS (tNot (tTest (tOp (rEqH (cH K) (sp_Houseeq K)) (tOp (rIxT K) (tCall (sp_sup0 K) [] E0 (tCons (tVar 2) (tCons (tThen (tVar 3) (kTup K)) tNil))) (tC (.int 0))) (tMake (cH K) (sp_Houseinit K) [] E0 (tCons (tVar 6) (tCons (tVar 7) (tCons (tVar 8) tNil))))))) (tRet (tC (.bl false))) tNext) (tL8 K)
def tL6 (K : PySem.W.Frag) : TS := tSeq (tIfS (tTest (tOp rNe (tCB (rRepr K) (tCons (tVar 5) tNil)) (tCB (rRepr K) (tCons (tOp (rCatA K) (tTup (tCons (tC (.int 0)) tNil)) (tOp (rRepT1 K) (tTup (tCons (tC (.int 1)) tNil)) (tOp (rI0 fun i j => .int (i - j)) (tCB (rLn K) (tCons (tVar 7) tNil)) (tC (.int 1))))) tNil)))) (tRet (tC (.bl false))) tNext) (tL7 K)
def tL5 (K : PySem.W.Frag) : TS := tSeq (tIfS (tTest (tOp rNe (tCB (rRepr K) (tCons (tLst (tCons (tFld K (tVar 4) "sizes") (tCons (tFld K (tVar 4) "standings") (tCons (tFld K (tVar 4) "changes") tNil)))) tNil)) (tCB (rRepr K) (tCons (tLst (tCons (tVar 6) (tCons (tVar 7) (tCons (tVar 8) tNil)))) tNil)))) (tRet (tC (.bl false))) tNext) (tL6 K)
def tL4 (K : PySem.W.Frag) : TS := tSeq (tAsg (tCall sp_law_built [] E0 (tCons (tVar 2) (tCons (tVar 3) tNil))) (gLst K 3 (gCons (gName 6) (gCons (gName 7) (gCons (gName 8) gNil))))) (tL5 K)
def tL3 (K : PySem.W.Frag) : TS := tSeq (tAsg (tCallK (sp_sup0 K) g2 E0 tNil (tCons (tVar 3) (tCons (tVar 2) tNil))) (gTup K 2 (gCons (gName 4) (gCons (gName 5) gNil)))) (tL4 K)
def tL2 (K : PySem.W.Frag) : TS := tSeq (tAsg (tCall sp_law_told_words [] E0 (tCons (tVar 1) (tCons (tVar 2) tNil))) (gName 3)) (tL3 K)
def tL1 (K : PySem.W.Frag) : TS := tSeq (tAsg (tOp (rI0 fun i j => .int (i + j)) (tC (.int 2)) (tCall sp_law_any [] E0 (tCons (tVar 1) (tCons (tC (.int 3)) tNil)))) (gName 2)) (tL2 K)
def tL0 (K : PySem.W.Frag) : TS := tSeq (tAsg (tCall (sp_law_dealt K) [] E0 (tCons (tVar 0) (tCons (tC (.int 24)) tNil))) (gName 1)) (tL1 K)
def qsW (ws : List (List Nat)) : List Nat := 0 :: List.replicate ws.flatten.length 1
def osW (ws : List (List Nat)) : List Nat := othersOf (qsW ws)
/-- what is asked of told words, their house -/
structure WsMath (c : Nat) (ws : List (List Nat)) : Prop where
  ok : ToldOk c ws
  uniq : ∀ st st', IsSort (rowsU c ws.flatten) st → IsSort (rowsU c ws.flatten) st' → st = st'
  uniq2 : ∀ st ch ch', IsSort (rowsU c ws.flatten) st → IsSort (idxPairs c ws.flatten (startsFrom 0 ws) st) ch → IsSort (idxPairs c ws.flatten (startsFrom 0 ws) st) ch' → ch = ch'
  again : ∀ st ch, IsSort (rowsU c ws.flatten) st → IsSort (idxPairs c ws.flatten (startsFrom 0 ws) st) ch → Given (timesU c 1 ws.flatten) st ch ∧ ∀ D, IsHouse (timesU c 1 ws.flatten) st ch D → D.standings = st ∧ D.changes = ch
  num : ∀ st ch, IsSort (rowsU c ws.flatten) st → IsSort (idxPairs c ws.flatten (startsFrom 0 ws) st) ch → (∀ r ∈ st, (∀ x ∈ r, x < 100) ∧ r.length ≤ 4) ∧ (∀ r ∈ ch, (∀ x ∈ r, x < 100) ∧ r.length ≤ 2) ∧ st.length ≤ 13 ∧ ch.length ≤ 12
  gd : ∀ st D, IsSort (rowsU c ws.flatten) st → IsHouse (timesU c 1 ws.flatten) (rowsU c ws.flatten) (idxPairs c ws.flatten (startsFrom 0 ws) st) D → Gd D c
  fam : ∀ st D, IsSort (rowsU c ws.flatten) st → IsHouse (timesU c 1 ws.flatten) (rowsU c ws.flatten) (idxPairs c ws.flatten (startsFrom 0 ws) st) D → ∃ RF, Fam D (osW ws) c RF
  ne : osW ws ≠ []
  hit : ∀ st D, IsSort (rowsU c ws.flatten) st → IsHouse (timesU c 1 ws.flatten) (rowsU c ws.flatten) (idxPairs c ws.flatten (startsFrom 0 ws) st) D → ∃ x, Mt.Ok c x ∧ x.length ≤ 12 ∧ Mt.run (stepL D (osW ws)) (osW ws) x = []
  best : ∀ st D, IsSort (rowsU c ws.flatten) st → IsHouse (timesU c 1 ws.flatten) (rowsU c ws.flatten) (idxPairs c ws.flatten (startsFrom 0 ws) st) D → ∀ x, Mt.Best (stepL D (osW ws)) c (fun l => l = []) (osW ws) x → Mt.Best (mv ws) c (fun s => s = whole ws) (st0 ws) x
  cnt : ∀ st D, IsSort (rowsU c ws.flatten) st → IsHouse (timesU c 1 ws.flatten) (rowsU c ws.flatten) (idxPairs c ws.flatten (startsFrom 0 ws) st) D → ∀ m, Mt.cnt (stepL D (osW ws)) c emp m (osW ws) = cntW ws c m
  run : ∀ st D, IsSort (rowsU c ws.flatten) st → IsHouse (timesU c 1 ws.flatten) (rowsU c ws.flatten) (idxPairs c ws.flatten (startsFrom 0 ws) st) D → ∀ u, Mt.Ok c u → (Mt.run (stepL D (osW ws)) (osW ws) u).isEmpty = decide (Mt.run (mv ws) (st0 ws) u = whole ws)
theorem WordsAt.ls {H : Hp} {d l a : Addr} {ps : List Addr} {ws : List (List Nat)} (h : WordsAt H d l a ps ws) : Ls LN H (.ref a) ws :=
  ⟨a, ps.map V.ref, rfl, h.at_, Paired.of_get (by rw [List.length_map]; exact h.len) fun i x y hx hy => by
    rw [List.getElem?_map] at hx
    cases e : ps[i]? with
    | none => rw [e] at hx; cases hx
    | some p =>
      rw [e] at hx
      cases hx
      exact ⟨p, rfl, (h.row i p y e hy).2.2⟩⟩
theorem rb_house {ts : List Nat} {st ch : List (List Nat)} (h1 : (∀ x ∈ ts, x < 100) ∧ ts.length ≤ 4) (h2 : ∀ r ∈ st, (∀ x ∈ r, x < 100) ∧ r.length ≤ 4) (h3 : ∀ r ∈ ch, (∀ x ∈ r, x < 100) ∧ r.length ≤ 2) (h4 : st.length ≤ 13) (h5 : ch.length ≤ 12) : RB (.list [dN ts, dNN st, dNN ch]) 3 (3 * (4903 + 2) + 3) := by
  refine rb_lst (k := 2) (B := 4903) (m := 3) (fun x hx => ?_) (by simp)
  have lt : ∀ x : Nat, x < 100 → x < 10 ^ 10 := fun x h => Nat.lt_trans h (by decide)
  simp only [List.mem_cons, List.not_mem_nil, or_false] at hx
  rcases hx with rfl | rfl | rfl
  · exact (rb_N (fun x hx => lt x (h1.1 x hx)) (by omega)).mono (by decide) (by decide)
  · exact rb_NN (fun r hr => ⟨fun x hx => lt x ((h2 r hr).1 x hx), by have := (h2 r hr).2; omega⟩) (by omega)
  · exact rb_NN (fun r hr => ⟨fun x hx => lt x ((h3 r hr).1 x hx), by have := (h3 r hr).2; omega⟩) (by omega)
section
variable {P : Program} {w : World} {K : PySem.W.Frag} {mg : Str → Option Value}
theorem times_lt {c : Nat} {ws : List (List Nat)} (T : ToldWs c ws) : (∀ x ∈ timesU c 1 ws.flatten, x < 100) ∧ (timesU c 1 ws.flatten).length ≤ 4 := by
  refine ⟨fun x hx => ?_, by rw [timesU_len]; exact T.c4⟩
  unfold timesU at hx
  obtain ⟨y, _, rfl⟩ := List.mem_map.mp hx
  have := T.five y
  omega
theorem law_B1 (G : Gs K mg) {Q : VK} {H : Hp} {d l wa : Addr} {v0 : V} {c : Nat} {ws : List (List Nat)} {ps : List Addr} (T : ToldWs c ws) (M : WsMath c ws) (wat : WordsAt H d l wa ps ws)
    (q : ∀ hv qv D st ch z1 z2 z3 H', Same H H' → HS K H' hv D → IsSort (rowsU c ws.flatten) st → IsHouse (timesU c 1 ws.flatten) (rowsU c ws.flatten) (idxPairs c ws.flatten (startsFrom 0 ws) st) D → TN H' qv (qsW ws) →
      TN H' z1 (timesU c 1 ws.flatten) → TTN H' z2 st → TTN H' z3 ch → IsSort (idxPairs c ws.flatten (startsFrom 0 ws) st) ch → D.standings = st → D.changes = ch →
      tL6 K (Dn Q) [some v0, some (.ref d), some (nV c), some (.ref wa), some hv, some qv, some z1, some z2, some z3, none, none, none, none, none, none, none, none, none, none, none, none, none] H') :
    tL3 K (Dn Q) [some v0, some (.ref d), some (nV c), some (.ref wa), none, none, none, none, none, none, none, none, none, none, none, none, none, none, none, none, none, none] H := by
  obtain ⟨wa', wvs, e0, hwa, hwp⟩ := wat.ls
  cases e0
  have c2 := T.c2
  have c4 := T.c4
  refine ⟨_, rfl, _, rfl, ?_⟩
  refine ⟨_, _, rfl, c, rfl, c2, c4, .inl ⟨ws, ⟨.L, wa, wvs, rfl, hwa, hwp⟩, T, M.ok, fun t H1 s1 ⟨hv, qv, D, st, ht, hs, is1, ih, tq⟩ => ?_⟩⟩
  refine ⟨t, _, rfl, SqT.of ht, rfl, _, _, rfl, _, _, rfl, rfl, ?_⟩
  refine ⟨_, rfl, _, rfl, _, _, rfl, c, ws, rfl, (wat.off (off s1)).ls, T, fun a z1 z2 z3 st' ch H2 s2 ha t1 t2 t3 is2 is3 => ⟨a, _, rfl, SqL.of ha, rfl, _, _, rfl, _, _, rfl, _, _, rfl, rfl, ?_⟩⟩
  have est : st' = st := M.uniq _ _ is2 is1
  subst est
  have eD1 : D.standings = st' := M.uniq _ _ ih.st is2
  have eD2 : D.changes = ch := M.uniq2 _ _ _ is2 ih.ch is3
  obtain ⟨n1, n2, n3, n4⟩ := M.num st' ch is2 is3
  have hs2 := SamR.mono s2 hs
  obtain ⟨x, dx, fs, s, tt, cc, ah, be, rfl, h1, h2, h3, h4, h5, h6, h7, h8, h9, h10, h11⟩ := id hs2
  refine ⟨_, rfl, x, _, dx, fs, s, rfl, h1, G.cls, G.n_sizes, h2, _, rfl, x, _, dx, fs, tt, rfl, h1, G.cls, G.n_standings, h4, _, rfl, x, _, dx, fs, cc, rfl, h1, G.cls, G.n_changes, h6, (by show 3 ≤ sizeLine; decide), fun p np => ?_⟩
  have s3 := same_new (o := .lst [s, tt, cc]) np
  have rb := rb_house (times_lt T) n1 n2 n3 n4
  dsimp only [tNil]
  refine repr_of (d := .list [dN (timesU c 1 ws.flatten), dNN st', dNN ch]) (.lst (SqL.of upd_same) (.cons (dp_N (ih.sizes ▸ SamR.mono s3 h3)) (.cons (dp_NN (eD1 ▸ SamR.mono s3 h5)) (.cons (dp_NN (eD2 ▸ SamR.mono s3 h7)) .nil)))) rb (by decide) (by decide) (by intro x; simp) ?_
  refine ⟨_, rfl, _, rfl, _, rfl, (by show 3 ≤ sizeLine; decide), fun p2 np2 => ?_⟩
  have s4 := same_new (o := .lst [z1, z2, z3]) np2
  have s34 := s3.trans s4
  dsimp only [tNil]
  refine repr_of (d := .list [dN (timesU c 1 ws.flatten), dNN st', dNN ch]) (.lst (SqL.of upd_same) (.cons (dp_N (SamR.mono s34 t1)) (.cons (dp_NN (SamR.mono s34 t2)) (.cons (dp_NN (SamR.mono s34 t3)) .nil)))) rb (by decide) (by decide) (by intro x; simp) ?_
  refine ⟨rfl, _, rfl, if_f (by simp) ?_⟩
  exact q _ _ D st' ch z1 z2 z3 _ (s1.trans (s2.trans s34)) (SamR.mono s34 hs2) is2 ih (SamR.mono (s2.trans s34) tq) (SamR.mono s34 t1) (SamR.mono s34 t2) (SamR.mono s34 t3) is3 eD1 eD2
end
end K24
set_option Elab.async false
set_option linter.all false
set_option maxRecDepth 100000
set_option maxHeartbeats 4000000
namespace K24
open PySem PySem.Spec PyProof.Rows L2
section
variable {P : Program} {w : World} {K : PySem.W.Frag} {mg : Str → Option Value}
theorem mk_question {σ : L2.St} {H : Hp} {Q : VK} {i n : Nat} {z : Addr} {vs : List V} (hσ : σ[i]? = some (some (.ref z))) (hz : H z = some (.tup vs)) (hl : vs.length = n + 1) (n1 : 1 ≤ n) (n2 : n ≤ 12) (q : ∀ u H', Same H H' → TN H' u (0 :: List.replicate n 1) → Q u H') :
    tOp (rCatA K) (tTup (tCons (tC (.int 0)) tNil)) (tOp (rRepT1 K) (tTup (tCons (tC (.int 1)) tNil)) (tOp (rI0 fun i j => .int (i - j)) (tCB (rLn K) (tCons (tVar i) tNil)) (tC (.int 1)))) σ H Q := by
  refine ⟨(by show 1 ≤ sizeLine; decide), fun q1 nq1 => ?_⟩
  have a1 := same_new (o := .tup [V.int 0]) nq1
  refine ⟨(by show 1 ≤ sizeLine; decide), fun q2 nq2 => ?_⟩
  have a2 := same_new (o := .tup [V.int 1]) nq2
  refine ⟨_, hσ, z, vs, rfl, .inr (SqT.of (a2 _ _ (a1 _ _ hz))), _, 1, rfl, rfl, ?_⟩
  have fin : ∀ q3 H16, Same H H16 → H16 q1 = some (.tup [V.int 0]) → H16 q3 = some (.tup (List.replicate n (V.int 1))) → rCatA K (.ref q1) (.ref q3) H16 Q := by
    intro q3 H16 s16 h1 h3
    refine ⟨q1, q3, [V.int 0], List.replicate n (V.int 1), rfl, rfl, SqT.of h1, SqT.of h3, ?_, (fun e => nomatch e), fun _ e => ?_, fun _ _ p np => ?_⟩
    · rw [List.length_replicate]
      exact Nat.le_of_lt (Nat.lt_of_le_of_lt (show 1 + n ≤ 1001 by omega) (by decide))
    · exfalso
      have h0 := congrArg List.length e
      rw [List.length_replicate] at h0
      have h00 : n = 0 := h0
      omega
    · refine q _ _ (s16.trans (same_new np)) ⟨p, rfl, ?_⟩
      rw [upd_same]
      congr 2
      unfold NL
      rw [List.map_cons, List.map_replicate]
      rfl
  have ku : (((vs.length : Nat) : Int) - 1) = ((n : Nat) : Int) := by omega
  refine ⟨q2, _, [V.int 1], rfl, rfl, SqT.of (upd_same), by simp, by omega, by omega, by simp, fun h => ?_, fun h p np => ?_⟩
  · refine fin q2 _ (a1.trans a2) (a2 _ _ upd_same) ?_
    rw [upd_same, show n = 1 by omega]
    rfl
  · have a3 := same_new (o := .tup (List.replicate (((vs.length : Nat) : Int) - 1).toNat [V.int 1]).flatten) np
    refine fin p _ (a1.trans (a2.trans a3)) (a3 _ _ (a2 _ _ upd_same)) ?_
    rw [upd_same, rep_flat, ku, Int.toNat_natCast]
theorem flat_pos {c : Nat} {ws : List (List Nat)} (T : ToldWs c ws) : 1 ≤ ws.flatten.length := by
  obtain ⟨w0, r, e⟩ : ∃ w0 r, ws = w0 :: r := by
    cases hws : ws with
    | nil => exact absurd hws T.ne
    | cons a b => exact ⟨a, b, rfl⟩
  have h1 := (T.word w0 (by rw [e]; simp)).ne
  rw [e, List.flatten_cons, List.length_append]
  have : 0 < w0.length := List.length_pos_iff.mpr h1
  omega
theorem law_B2 (G : Gs K mg) {Q : VK} {H : Hp} {d l wa : Addr} {v0 hv qv z1 z2 z3 : V} {c : Nat} {ws : List (List Nat)} {ps : List Addr} {D : HD} {st ch : List (List Nat)} (T : ToldWs c ws) (M : WsMath c ws) (wat : WordsAt H d l wa ps ws)
    (hs : HS K H hv D) (is1 : IsSort (rowsU c ws.flatten) st) (ih : IsHouse (timesU c 1 ws.flatten) (rowsU c ws.flatten) (idxPairs c ws.flatten (startsFrom 0 ws) st) D) (tq : TN H qv (qsW ws))
    (t1 : TN H z1 (timesU c 1 ws.flatten)) (t2 : TTN H z2 st) (t3 : TTN H z3 ch) (is3 : IsSort (idxPairs c ws.flatten (startsFrom 0 ws) st) ch) (eD1 : D.standings = st) (eD2 : D.changes = ch)
    (q : ∀ H', Same H H' → tL8 K (Dn Q) [some v0, some (.ref d), some (nV c), some (.ref wa), some hv, some qv, some z1, some z2, some z3, none, none, none, none, none, none, none, none, none, none, none, none, none] H') :
    tL6 K (Dn Q) [some v0, some (.ref d), some (nV c), some (.ref wa), some hv, some qv, some z1, some z2, some z3, none, none, none, none, none, none, none, none, none, none, none, none, none] H := by
  have tl := told_len T
  have u1 := flat_pos T
  have c2 := T.c2
  have c4 := T.c4
  have stl : st.length = ws.flatten.length + 1 := by rw [is1.perm.length_eq, rowsU_len]
  have rq : RB (dN (qsW ws)) 1 243 := rb_N (fun x hx => by
    unfold qsW at hx
    rcases List.mem_cons.mp hx with rfl | hx
    · decide
    · rw [(List.mem_replicate.mp hx).2]; decide) (by unfold qsW; rw [List.length_cons, List.length_replicate]; omega)
  -- repr(question)
  refine ⟨_, rfl, ?_⟩
  dsimp only [tNil]
  refine repr_of (dp_N tq) rq (by decide) (by decide) (by intro x; unfold dN; simp) ?_
  obtain ⟨za, zvs, rfl, hza, hzp⟩ := id t2
  refine mk_question (i := 7) (n := ws.flatten.length) rfl hza (by rw [Paired.len hzp, stl]) u1 tl fun u H1 s1 tu => ?_
  dsimp only [tNil]
  refine repr_of (dp_N tu) rq (by decide) (by decide) (by intro x; unfold dN; simp) ?_
  refine ⟨rfl, _, rfl, if_f (by unfold qsW; simp) ?_⟩
  -- the second house
  have wat1 := wat.off (off s1)
  obtain ⟨wa', wvs, e0, hwa, hwp⟩ := wat1.ls
  cases e0
  refine ⟨_, rfl, _, rfl, kTup_SK (R := LN) ⟨.L, wa, wvs, rfl, hwa, hwp⟩ fun u2 H2 s2 tw => ?_⟩
  obtain ⟨ta, tvs, rfl, hta, htp⟩ := tw
  refine ⟨_, _, rfl, c, rfl, c2, c4, .inl ⟨ws, ⟨.T, ta, tvs, rfl, hta, htp⟩, T, M.ok, fun t H3 s3 ⟨hv2, qv2, D2, st2, ht, hs2, is2, ih2, tq2⟩ => ?_⟩⟩
  refine ⟨t, _, 0, _, rfl, rfl, SqT.of ht, at0, ?_⟩
  have s13 := s1.trans (s2.trans s3)
  refine ⟨_, rfl, _, rfl, _, rfl, fun x dx nx ndx dxx => ?_⟩
  have sx : Same H3 (upd (upd H3 dx (.own x)) x (.ins (cH K) dx [])) := (same_new ndx).trans (same_new (by rw [upd_ne (Ne.symm dxx)]; exact nx))
  obtain ⟨gv, ag⟩ := M.again st ch is1 is3
  have snOf : ∀ {H' : Hp} {v : V} {ns : List Nat}, TN H' v ns → SN H' v ns := fun ⟨a, e, h⟩ => ⟨.T, a, e, h⟩
  have skOf : ∀ {H' : Hp} {v : V} {ns : List (List Nat)}, TTN H' v ns → SK TN H' v ns := fun ⟨a, vs, e, h, p⟩ => ⟨.T, a, vs, e, h, p⟩
  have nx0 := same_none s13 nx
  refine ⟨_, _, _, _, rfl, x, dx, timesU c 1 ws.flatten, st, ch, rfl, upd_same, snOf (SamR.mono (s13.trans sx) t1), skOf (SamR.mono (s13.trans sx) t2), skOf (SamR.mono (s13.trans sx) t3), gv, fun H4 D3 X4 hs3 ih3 => ⟨rfl, ?_⟩⟩
  have s34 : Same H3 H4 := fun b o h => X4 _ _ (fun z => by rw [z, nx] at h; cases h) (sx _ _ h)
  have hs2' := SamR.mono s34 hs2
  obtain ⟨e1, e2⟩ := ag D3 ih3
  have est : st2 = st := M.uniq _ _ is2 is1
  subst est
  obtain ⟨a1, dx1, fs1, ea1, ha1⟩ := hs2'.is
  obtain ⟨a2, dx2, fs2, ea2, ha2⟩ := hs3.is
  refine ⟨a1, dx1, fs1, a2, dx2, fs2, ea1, ea2, ha1, ha2, _, _, rfl, D2, D3, hs2', hs3, ?_, ?_, ?_, fun H5 s5 => ⟨_, rfl, if_f rfl ?_⟩⟩
  · rw [ih2.sizes, ih3.sizes]
  · rw [e1]
    exact M.uniq _ _ ih2.st is1
  · rw [e2]
    exact M.uniq2 _ _ _ is1 ih2.ch is3
  exact q _ (s13.trans (s34.trans s5))
end
end K24
set_option Elab.async false
set_option linter.all false
set_option maxRecDepth 100000
set_option maxHeartbeats 4000000
namespace K24
open PySem PySem.Spec PyProof.Rows L2
theorem paired_rep {α β : Type} {F : α → β → Prop} {x : α} {y : β} (h : F x y) : ∀ n : Nat, Paired F (List.replicate n x) (List.replicate n y)
  | 0 => .nil
  | n + 1 => .cons h (paired_rep h n)
section
variable {P : Program} {w : World} {K : PySem.W.Frag} {mg : Str → Option Value}
theorem law_C {Q : VK} {H : Hp} {d l wa : Addr} {v0 hv qv z1 z2 z3 : V} {c : Nat} {ws : List (List Nat)} {ps : List Addr} {D : HD} {st : List (List Nat)} (T : ToldWs c ws) (M : WsMath c ws) (dl : Deal H d l) (wat : WordsAt H d l wa ps ws)
    (hs : HS K H hv D) (is1 : IsSort (rowsU c ws.flatten) st) (ih : IsHouse (timesU c 1 ws.flatten) (rowsU c ws.flatten) (idxPairs c ws.flatten (startsFrom 0 ws) st) D) (tq : TN H qv (qsW ws))
    (q : ∀ vv rv cl bv H', Same H H' → Pre K H' hv vv qv (nV 0) rv D c (qsW ws) → H' cl = some (.lst (NL ((List.range 13).map (cntW ws c)))) → cl ≠ d → cl ≠ l →
      tL12 K (Dn Q) [some v0, some (.ref d), some (nV c), some (.ref wa), some hv, some qv, some z1, some z2, some z3, some vv, some rv, some (.ref cl), some bv, none, none, none, none, none, none, none, none, none] H') :
    tL8 K (Dn Q) [some v0, some (.ref d), some (nV c), some (.ref wa), some hv, some qv, some z1, some z2, some z3, none, none, none, none, none, none, none, none, none, none, none, none, none] H := by
  have c2 := T.c2
  have c4 := T.c4
  have gd := M.gd st D is1 ih
  obtain ⟨RF, F⟩ := M.fam st D is1 ih
  obtain ⟨hx, hok, h12, hrun⟩ := M.hit st D is1 ih
  have hsz := gd.sz
  refine ⟨_, rfl, _, rfl, D, hs, by omega, fun vv H1 s1 tv => ?_⟩
  rw [hsz] at tv
  refine ⟨(by show 1 ≤ sizeLine; decide), fun r0 nr0 => ⟨(by show 1 ≤ sizeLine; decide), fun r1 nr1 => ⟨_, rfl, r1, (c : Int), [.ref r0], rfl, rfl, SqT.of upd_same, by simp, by omega, by omega, by simp, fun h => absurd h (by omega), fun _ p np => ?_⟩⟩⟩
  rw [rep_flat, Int.toNat_natCast]
  have s2 := same_new (o := .tup [V.int 0]) nr0
  have s3 := same_new (o := .tup [.ref r0]) nr1
  have s4 := same_new (o := .tup (List.replicate c (.ref r0))) np
  have r4 : TTN (upd (upd (upd H1 r0 (.tup [V.int 0])) r1 (.tup [.ref r0])) p (.tup (List.replicate c (.ref r0)))) (.ref p) (List.replicate c [0]) :=
    ⟨p, _, rfl, upd_same, paired_rep ⟨r0, rfl, s4 _ _ (s3 _ _ upd_same)⟩ c⟩
  have s14 := s1.trans (s2.trans (s3.trans s4))
  have v4 := SamR.mono (s2.trans (s3.trans s4)) tv
  generalize upd (upd (upd H1 r0 (.tup [V.int 0])) r1 (.tup [.ref r0])) p (.tup (List.replicate c (.ref r0))) = H4 at s4 r4 s14 v4 ⊢
  refine ⟨_, _, rfl, ?_⟩
  -- most
  refine ⟨_, rfl, _, rfl, _, _, _, rfl, ws, c, 12, (wat.off (off s14)).ls, rfl, rfl, by decide, T.len, fun w hw => (T.word w hw).len, by omega, fun a cl bv H5 s5 ha hcl ncl B => ⟨a, _, rfl, SqL.of ha, rfl, _, _, rfl, _, _, rfl, rfl, ?_⟩⟩
  have s15 := s14.trans s5
  have ncl0 : cl ≠ d ∧ cl ≠ l := (dl.same s14).ne ncl
  have pre : Pre K H5 hv vv qv (nV 0) (.ref p) D c (qsW ws) := ⟨SamR.mono s15 hs, SamR.mono s5 v4, SamR.mono s15 tq, by unfold qsW; rw [ih.st.perm.length_eq, rowsU_len, List.length_cons, List.length_replicate], rfl, SamR.mono s5 r4, gd⟩
  have hwhole : Mt.run (mv ws) (st0 ws) hx = whole ws := by
    have := M.run st D is1 ih hx hok
    rw [hrun] at this
    exact of_decide_eq_true this.symm
  rcases B with ⟨rfl, hno⟩ | ⟨u, tu, bu⟩
  · exact absurd hwhole (hno hx hok (by omega))
  have ul : u.length ≤ 12 := Nat.le_trans (bu.short hx hok hwhole) h12
  have rbu : RB (dN u) 1 243 := rb_N (fun x hx => Nat.lt_trans (bu.ok x hx) (Nat.lt_of_le_of_lt c4 (by decide))) (by omega)
  obtain ⟨ub, rfl, hub⟩ := id tu
  refine ⟨_, rfl, rfl, _, rfl, if_f (decide_eq_false (by simp)) ?_⟩
  refine ⟨_, rfl, _, rfl, _, rfl, _, rfl, _, _, _, _, _, rfl, D, c, qsW ws, RF, pre, F, M.ne, ⟨hx, hok, h12, hrun⟩, fun u' H6 x s6 tx bx => ?_⟩
  have ex := Mt.Best.uniq _ _ (M.best st D is1 ih x bx) bu
  subst ex
  dsimp only [tNil]
  refine repr_of (dp_N tx) rbu (by decide) (by decide) (by intro y; unfold dN; simp) ?_
  refine ⟨_, rfl, ?_⟩
  dsimp only [tNil]
  refine repr_of (dp_N (SamR.mono s6 tu)) rbu (by decide) (by decide) (by intro y; unfold dN; simp) ?_
  refine ⟨rfl, _, rfl, if_f (by simp) ?_⟩
  -- fewest
  refine ⟨_, rfl, _, rfl, _, rfl, _, rfl, _, _, _, _, _, rfl, D, c, qsW ws, RF, pre.mono (smi s6), F, M.ne, ⟨hx, hok, h12, hrun⟩, fun H7 x2 s7 bx2 => ?_⟩
  have ex2 := Mt.Best.uniq _ _ (M.best st D is1 ih x2 bx2) bu
  subst ex2
  refine ⟨_, rfl, ub, NL x2, rfl, .inr (SqT.of (s7 _ _ (s6 _ _ hub))), rfl, _, rfl, if_f (by rw [nl_len]; simp) ?_⟩
  have s67 := s6.trans s7
  exact q vv (.ref p) cl (.ref ub) H7 (s15.trans s67) (pre.mono (smi s67)) (s67 _ _ hcl) ncl0.1 ncl0.2
end
end K24
set_option Elab.async false
set_option linter.all false
set_option maxRecDepth 100000
set_option maxHeartbeats 4000000
namespace K24
open PySem PySem.Spec PyProof.Rows L2
theorem run_get : ∀ (u : List Nat) {ws : List (List Nat)} {st : List Nat} {i p : Nat} {w : List Nat}, ws[i]? = some w → st[i]? = some p → (Mt.run (mv ws) st u)[i]? = some (u.foldl (mv1 w) p)
  | [], _, _, _, _, _, _, h => h
  | x :: u, ws, st, i, p, w, h1, h2 => by
    show (Mt.run (mv ws) (mv ws st x) u)[i]? = _
    refine run_get u h1 ?_
    unfold mv
    rw [List.getElem?_zipWith, h1, h2]
def livW (ws : List (List Nat)) (fs : List Nat) : List Nat := (List.range ws.length).filter fun i => decide (fs.getD i 0 < (ws.getD i []).length)
theorem bnd_le : ∀ {ws : List (List Nat)} {st : List Nat}, Bnd ws st → ∀ {i : Nat} {w : List Nat} {p : Nat}, ws[i]? = some w → st[i]? = some p → p ≤ w.length
  | _ :: _, _ :: _, h, 0, _, _, h1, h2 => by cases h1; cases h2; exact h.1
  | _ :: _, _ :: _, h, i + 1, _, _, h1, h2 => bnd_le h.2 (i := i) h1 h2
theorem liv_nil {ws : List (List Nat)} {fs : List Nat} (h : Bnd ws fs) : livW ws fs = [] ↔ fs = whole ws := by
  have hl := h.len
  unfold livW
  rw [List.filter_eq_nil_iff]
  constructor
  · intro h2
    apply List.ext_getElem?
    intro i
    by_cases hi : i < ws.length
    · have h3 := h2 i (List.mem_range.mpr hi)
      have hf : i < fs.length := by omega
      have h4 := bnd_le h (List.getElem?_eq_getElem hi) (List.getElem?_eq_getElem hf)
      rw [List.getD_eq_getElem?_getD, List.getD_eq_getElem?_getD, List.getElem?_eq_getElem hi, List.getElem?_eq_getElem hf] at h3
      have h5 : ¬ fs[i] < ws[i].length := fun z => h3 (decide_eq_true z)
      unfold whole
      rw [List.getElem?_map, List.getElem?_eq_getElem hi, List.getElem?_eq_getElem hf]
      exact congrArg some (by omega)
    · rw [List.getElem?_eq_none (by omega), List.getElem?_eq_none (by unfold whole; rw [List.length_map]; omega)]
  · intro e i hi h3
    rw [List.mem_range] at hi
    have h4 := of_decide_eq_true h3
    rw [e] at h4
    unfold whole at h4
    rw [List.getD_eq_getElem?_getD, List.getD_eq_getElem?_getD, List.getElem?_map, List.getElem?_eq_getElem hi] at h4
    exact Nat.lt_irrefl _ h4
theorem off_smi {d l : Addr} {H H' : Hp} (o : Off d l H H') (D : Deal H d l) : SmI H H' := fun b u i e => by
  obtain ⟨xs, b0, D⟩ := D
  refine o b u (fun z => ?_) (fun z => ?_) e
  · rw [z, D.hd] at e; cases e; exact i
  · rw [z, D.hl] at e; cases e; exact i
section
variable {P : Program} {w : World} {K : PySem.W.Frag} {mg : Str → Option Value}
theorem law_D {Q : VK} {H : Hp} {d l wa cl : Addr} {v0 hv qv z1 z2 z3 vv rv bv : V} {c : Nat} {ws : List (List Nat)} {ps : List Addr} {D : HD} {st : List (List Nat)} (T : ToldWs c ws) (M : WsMath c ws) (dl : Deal H d l) (wat : WordsAt H d l wa ps ws)
    (is1 : IsSort (rowsU c ws.flatten) st) (ih : IsHouse (timesU c 1 ws.flatten) (rowsU c ws.flatten) (idxPairs c ws.flatten (startsFrom 0 ws) st) D) (pre : Pre K H hv vv qv (nV 0) rv D c (qsW ws))
    (hcl : H cl = some (.lst (NL ((List.range 13).map (cntW ws c))))) (cd : cl ≠ d) (cl' : cl ≠ l)
    (q : ∀ x13 x14 x15 x16 x17 x18 H', Off d l H H' → Deal H' d l →
      tL13 K (Dn Q) [some v0, some (.ref d), some (nV c), some (.ref wa), some hv, some qv, some z1, some z2, some z3, some vv, some rv, some (.ref cl), some bv, x13, x14, x15, x16, x17, x18, none, none, none] H') :
    tL12 K (Dn Q) [some v0, some (.ref d), some (nV c), some (.ref wa), some hv, some qv, some z1, some z2, some z3, some vv, some rv, some (.ref cl), some bv, none, none, none, none, none, none, none, none, none] H := by
  have c2 := T.c2
  have c4 := T.c4
  have tlen := T.len
  refine ⟨4, rfl, by decide, by decide, ?_⟩
  refine for_go (iw_range (p := 13)) (fun i σ H' => ∃ x13 x14 x15 x16 x17 x18, σ = [some v0, some (.ref d), some (nV c), some (.ref wa), some hv, some qv, some z1, some z2, some z3, some vv, some rv, some (.ref cl), some bv, x13, x14, x15, x16, x17, x18, none, none, none] ∧ Off d l H H' ∧ Deal H' d l)
    ⟨_, _, _, _, _, _, rfl, Off.refl _ _ _, dl⟩ (fun _ _ _ _ _ => trivial) (fun i σ H1 H2 hi ⟨x13, x14, x15, x16, x17, x18, e, o1, D1⟩ s2 => ?_) (fun σ H1 ⟨x13, x14, x15, x16, x17, x18, e, o1, D1⟩ => ?_)
  · subst e
    have o2 := o1.trans (off s2)
    have D2 := D1.same s2
    refine ⟨_, rfl, _, rfl, _, _, _, rfl, d, l, c, 9, rfl, D2, rfl, by omega, by omega, rfl, by decide, fun a word H3 o3 D3 na ad al ha hxw hlw => ?_⟩
    have o13 := o2.trans o3
    have wat3 := wat.off o13
    have ls3 := wat3.ls
    obtain ⟨wa', wvs, e0, hwa, hwp⟩ := id ls3
    cases e0
    have hwl := Paired.len hwp
    refine ⟨(by show 1 ≤ sizeLine; decide), fun a1 n1 => ⟨_, rfl, wa, wvs, rfl, .inl (SqL.of ((same_new n1) _ _ hwa)), a1, (wvs.length : Int), _, rfl, rfl, upd_same, by omega, by omega, ?_, fun a2 n2 => ?_⟩⟩
    · show 1 * ((wvs.length : Int)).toNat ≤ sizeLine
      exact Nat.le_trans (by omega : 1 * ((wvs.length : Int)).toNat ≤ 1000) (by decide)
    rw [rep_flat, Int.toNat_natCast]
    have s4 := (same_new (o := .lst [V.int 0]) n1).trans (same_new (o := .lst (List.replicate wvs.length (V.int 0))) n2)
    have e4 : (upd (upd H3 a1 (.lst [V.int 0])) a2 (.lst (List.replicate wvs.length (V.int 0)))) a2 = some (.lst (NL (st0 ws))) := by
      rw [upd_same]
      unfold st0
      rw [nl_rep, hwl]
      rfl
    generalize upd (upd H3 a1 (.lst [V.int 0])) a2 (.lst (List.replicate wvs.length (V.int 0))) = H4 at s4 e4 ⊢
    refine kTup_new e4 fun kt H5 s5 e5 => ⟨(by show 2 ≤ sizeLine; decide), fun tp ntp => ?_⟩
    have s6 := same_new (o := .tup [.ref a, .ref kt]) ntp
    refine ⟨tp, _, rfl, SqT.of upd_same, rfl, _, _, rfl, _, _, rfl, rfl, ?_⟩
    have s36 := s4.trans (s5.trans s6)
    have ha6 := s36 _ _ ha
    have k6 : TN (upd H5 tp (.tup [.ref a, .ref kt])) (.ref kt) (st0 ws) := ⟨kt, rfl, s6 _ _ e5⟩
    generalize upd H5 tp (.tup [.ref a, .ref kt]) = H6 at s6 s36 ha6 k6 ⊢
    -- the word's way
    refine ⟨_, rfl, a, NL word, .L, rfl, SqL.of ha6, ?_⟩
    refine for_seq (k := .L) (fun j σ H' => ∃ y15 x16, σ = [some v0, some (.ref d), some (nV c), some (.ref wa), some hv, some qv, some z1, some z2, some z3, some vv, some rv, some (.ref cl), some bv, some (.int (0 + (i : Nat))), some (.ref a), some y15, x16, x17, x18, none, none, none] ∧ Same H6 H' ∧ TN H' y15 (Mt.run (mv ws) (st0 ws) (word.take j)))
      ⟨_, _, rfl, Same.refl _, by rw [List.take_zero]; exact k6⟩ (fun j σ H' _ ⟨_, _, _, s, _⟩ => SqL.of (s _ _ ha6)) (fun j x σ H7 hx ⟨y15, x16', e, s7, t7⟩ => ?_) (fun σ H7 ⟨y15, x16', e, s7, t7⟩ => ?_)
    · subst e
      have hj : j < word.length := by
        have := (List.getElem?_eq_some_iff.mp hx).1
        rwa [nl_len] at this
      have ex : x = nV word[j] := by
        rw [nl_get (n := word[j]) (by simp [hj])] at hx
        exact (Option.some.inj hx).symm
      subst ex
      have bl := (bnd_run (word.take j) (bnd_st0 ws)).len
      refine ⟨_, rfl, _, rfl, _, rfl, _, _, _, rfl, ws, _, word[j], (SamR.mono (s36.trans s7) ls3), t7, bl, rfl, by omega, fun u H8 s8 tu => ?_⟩
      refine ⟨_, _, rfl, s7.trans s8, ?_⟩
      rw [List.take_succ, List.getElem?_eq_getElem hj]
      show TN H8 u (Mt.run (mv ws) (st0 ws) (word.take j ++ [word[j]]))
      rw [Mt.run_snoc]
      exact tu
    · subst e
      rw [nl_len, List.take_length] at t7
      have hb := bnd_run word (bnd_st0 ws)
      have hst : ∀ (i : Nat) (w : List Nat), ws[i]? = some w → (Mt.run (mv ws) (st0 ws) word)[i]? = some (word.foldl (mv1 w) 0) := fun i w hw => run_get word hw (by
        unfold st0
        rw [List.getElem?_replicate, if_pos (List.getElem?_eq_some_iff.mp hw).1])
      generalize hfs : Mt.run (mv ws) (st0 ws) word = fs at *
      have fl := hb.len
      have s37 := s36.trans s7
      obtain ⟨fa, rfl, hfa⟩ := t7
      have ls7 := SamR.mono s37 ls3
      obtain ⟨wa', wvs', e0, hwa7, hwp7⟩ := id ls7
      cases e0
      have hwl7 := Paired.len hwp7
      -- lived
      refine ⟨_, rfl, wa, wvs', rfl, .inl (SqL.of hwa7), _, rfl, by omega, by omega, ?_⟩
      intro L nL
      rw [Int.toNat_natCast, hwl7]
      refine lc_sel nL (iw_range (p := 18)) (fun _ => rfl) (by omega) (fun _ _ => trivial) (fun j => decide (fs.getD j 0 < (ws.getD j []).length)) (fun j => nV j) (fun j H8 hj s8 Qk hk => ?_) (fun j H8 hj s8 hp Qk hk => ?_) (fun H8 s8 e8 => ?_)
      · obtain ⟨wj, hwj⟩ := lt_get (xs := ws) hj
        obtain ⟨v, hv', pj, rfl, hpj⟩ := Paired.get hwp7 hwj
        have hfj : j < fs.length := by omega
        have g1 : fs.getD j 0 = fs[j] := by rw [List.getD_eq_getElem?_getD, List.getElem?_eq_getElem hfj]; rfl
        have g2 : ws.getD j [] = wj := by rw [List.getD_eq_getElem?_getD, hwj]; rfl
        rw [g1, g2] at hk
        refine ⟨_, rfl, _, rfl, fa, NL fs, 0 + (j : Nat), _, rfl, rfl, SqT.of (s8 _ _ hfa), (by rw [Int.zero_add]; exact atI_nat (nl_get (n := fs[j]) (by simp [hfj]))), ?_⟩
        refine ⟨_, rfl, _, rfl, wa, wvs', 0 + (j : Nat), .ref pj, rfl, rfl, SqL.of (s8 _ _ hwa7), (by rw [Int.zero_add]; exact atI_nat hv'), pj, NL wj, rfl, .inl (SqL.of (s8 _ _ hpj)), _, _, rfl, rfl, _, rfl, ?_⟩
        rw [nl_len]
        have e9 : decide (((fs[j] : Nat) : Int) < ((wj.length : Nat) : Int)) = decide (fs[j] < wj.length) := decide_eq_decide.mpr (by omega)
        rw [e9]
        exact hk _ (Same.refl _)
      · refine ⟨_, rfl, ?_⟩
        show Qk (V.int (0 + (j : Nat))) H8
        rw [Int.zero_add]
        exact hk _ (Same.refl _)
      have e8' : H8 L = some (.lst (NL (livW ws fs))) := e8
      have s38 := s37.trans s8
      have pre8 : Pre K H8 hv vv qv (nV 0) rv D c (qsW ws) := pre.mono ((off_smi o13 dl).trans (smi s38))
      have hw8 : SN H8 (.ref a) word := ⟨.L, a, rfl, s8 _ _ (s7 _ _ ha6)⟩
      -- word_settles
      refine ⟨_, rfl, _, rfl, _, rfl, _, rfl, _, rfl, _, _, _, _, _, _, rfl, D, c, qsW ws, word, pre8, hw8, hxw, by omega, fun H9 s9 => ?_⟩
      have hrun := M.run st D is1 ih word hxw
      rw [hfs] at hrun
      refine ⟨_, rfl, Nat.zero_le _, fun p9 np9 => ?_⟩
      have s10 := same_new (o := .lst []) np9
      have e10 := s10 _ _ (s9 _ _ e8')
      rw [nl_int] at e10
      refine ⟨_, .list [], .lst (SqL.of e10) (dp_ints _), .lst (SqL.of upd_same) .nil, (dok_ints _).shaped (by decide), (dok_ints []).shaped (by decide), ?_⟩
      rw [eqv_empty]
      have eqb : (Mt.run (stepL D (othersOf (qsW ws))) (othersOf (qsW ws)) word).isEmpty = decide ((livW ws fs).map (fun n : Nat => (n : Int)) = []) := by
        show (Mt.run (stepL D (osW ws)) (osW ws) word).isEmpty = _
        rw [hrun]
        refine decide_eq_decide.mpr ?_
        rw [List.map_eq_nil_iff]
        exact (liv_nil hb).symm
      rw [eqb]
      refine ⟨rfl, _, rfl, if_f (by simp) ?_⟩
      have s9' := s9.trans s10
      have s310 := s38.trans s9'
      have e11 : (upd H9 p9 (.lst [])) L = some (.lst (NL (livW ws fs))) := s9' _ _ e8'
      generalize upd H9 p9 (.lst []) = H10 at s310 e11 s9' ⊢
      -- has_scattered
      have ls10 := SamR.mono s310 ls3
      obtain ⟨wa', wvs'', e0, hwa10, hwp10⟩ := id ls10
      cases e0
      have hwl10 := Paired.len hwp10
      refine ⟨_, rfl, wa, wvs'', rfl, .inl (SqL.of hwa10), _, rfl, by omega, by omega, ?_⟩
      rw [Int.toNat_natCast, hwl10]
      have ha10 : H10 a = some (.lst (NL word)) := s310 _ _ ha
      refine for_go (iw_range (p := 18)) (fun j σ H' => ∃ x18, σ = [some v0, some (.ref d), some (nV c), some (.ref wa), some hv, some qv, some z1, some z2, some z3, some vv, some rv, some (.ref cl), some bv, some (.int (0 + (i : Nat))), some (.ref a), some (.ref fa), x16', some (.ref L), x18, none, none, none] ∧ Same H10 H')
        ⟨_, rfl, Same.refl _⟩ (fun _ _ _ _ _ => trivial) (fun j σ H11 H12 hj ⟨x18', e, s11⟩ s12 => ?_) (fun σ H11 ⟨x18', e, s11⟩ => ?_)
      · subst e
        have s1012 := s11.trans s12
        obtain ⟨wj, hwj⟩ := lt_get (xs := ws) hj
        obtain ⟨v, hv', pj, rfl, hpj⟩ := Paired.get hwp10 hwj
        have hfj : j < fs.length := by omega
        have gf := hst j wj hwj
        have bl := bnd_le hb hwj gf
        have jv : V.int (0 + (j : Nat)) = nV j := by rw [Int.zero_add]
        refine ⟨_, rfl, _, rfl, wa, wvs'', 0 + (j : Nat), .ref pj, rfl, rfl, SqL.of (s1012 _ _ hwa10), (by rw [Int.zero_add]; exact atI_nat hv'), _, rfl, ?_⟩
        refine ⟨_, _, rfl, word, wj, ⟨.L, a, rfl, s1012 _ _ ha10⟩, ⟨.L, pj, rfl, s1012 _ _ hpj⟩, by omega, by have := (T.word wj (mem_get hwj)).len; omega, fun H13 s13 => ?_⟩
        dsimp only [tNil]
        have rbb : ∀ b : Bool, RB (.bool b) 1 10 := fun b => ⟨by simp only [PyData.showable], by simp only [PyData.hasDict], by simp only [PyData.depth]; omega, by cases b <;> decide +kernel⟩
        refine repr_of (.bl _) (rbb _) (by decide) (by decide) (by intro x; simp) ?_
        refine ⟨_, rfl, _, rfl, L, NL (livW ws fs), rfl, .inl (SqL.of (s13 _ _ (s1012 _ _ e11))), rfl, flat_nl _, ?_⟩
        dsimp only [tNil]
        rw [if_pos rfl]
        refine repr_of (.bl _) (rbb _) (by decide) (by decide) (by intro x; simp) ?_
        have eb : decide (word.foldl (mv1 wj) 0 = wj.length) = !inV (V.int (0 + (j : Nat))) (NL (livW ws fs)) := by
          rw [jv, inV_nl]
          have hm : j ∈ livW ws fs ↔ word.foldl (mv1 wj) 0 < wj.length := by
            unfold livW
            rw [List.mem_filter, List.mem_range]
            have g1 : fs.getD j 0 = word.foldl (mv1 wj) 0 := by rw [List.getD_eq_getElem?_getD, gf]; rfl
            have g2 : ws.getD j [] = wj := by rw [List.getD_eq_getElem?_getD, hwj]; rfl
            rw [g1, g2]
            exact ⟨fun z => of_decide_eq_true z.2, fun z => ⟨hj, decide_eq_true z⟩⟩
          by_cases hlt : word.foldl (mv1 wj) 0 < wj.length
          · rw [decide_eq_true (hm.mpr hlt), decide_eq_false (by omega)]
            rfl
          · rw [decide_eq_false fun z => hlt (hm.mp z), decide_eq_true (by omega)]
            rfl
        rw [eb]
        refine ⟨rfl, _, rfl, if_f (by simp) ?_⟩
        exact ⟨_, rfl, s1012.trans s13⟩
      · subst e
        exact ⟨_, _, _, _, _, _, rfl, o13.trans (off (s310.trans s11)), D3.same (s310.trans s11)⟩
  · subst e
    exact q _ _ _ _ _ _ _ o1 D1
end
end K24
set_option Elab.async false
set_option linter.all false
set_option maxRecDepth 100000
set_option maxHeartbeats 4000000
namespace K24
open PySem PySem.Spec PyProof.Rows L2
theorem BadW.off {c : Nat} {d l : Addr} {H H' : Hp} {v : V} (o : Off d l H H') (ne : ∀ a, v = .ref a → a ≠ d ∧ a ≠ l) (h : BadW c H v) : BadW c H' v := by
  cases h with
  | notSeq h =>
    rcases h with ⟨e, _⟩ | h
    · cases e
    · exact .notSeq (.inr h)
  | empty h =>
    obtain ⟨a, rfl, ha⟩ := h
    exact .empty ⟨a, rfl, o _ _ (ne a rfl).1 (ne a rfl).2 ha⟩
  | letter a x e h hx => exact .letter a x e (o _ _ (ne a e).1 (ne a e).2 h) hx
  | word wd h lt ne' l' bad =>
    obtain ⟨a, rfl, ha⟩ := h
    exact .word wd ⟨a, rfl, o _ _ (ne a rfl).1 (ne a rfl).2 ha⟩ lt ne' l' bad
theorem cut_take {xs : List V} {n : Nat} (h : n ≤ xs.length) : cutV xs none (some ((n : Nat) : Int)) = xs.take n := by
  unfold cutV
  rw [HT.sIx_none, HT.sIx_nat]
  simp
section
variable {P : Program} {w : World} {K : PySem.W.Frag} {mg : Str → Option Value}
theorem rb_neg : RB (.int (-1)) 1 10 := ⟨by simp only [PyData.showable]; decide, by simp only [PyData.hasDict], by simp only [PyData.depth]; omega, by decide +kernel⟩
theorem law_E1 {Q : VK} {H : Hp} {d l wa cl : Addr} {v0 hv qv z1 z2 z3 vv rv bv : V} {x13 x14 x15 x16 x17 x18 : Option V} {c : Nat} {ws : List (List Nat)} {ps : List Addr} {D : HD} {st : List (List Nat)} (T : ToldWs c ws) (M : WsMath c ws) (dl : Deal H d l) (wat : WordsAt H d l wa ps ws)
    (is1 : IsSort (rowsU c ws.flatten) st) (ih : IsHouse (timesU c 1 ws.flatten) (rowsU c ws.flatten) (idxPairs c ws.flatten (startsFrom 0 ws) st) D) (pre : Pre K H hv vv qv (nV 0) rv D c (qsW ws))
    (hcl : H cl = some (.lst (NL ((List.range 13).map (cntW ws c))))) (cd : cl ≠ d) (cl' : cl ≠ l)
    (q : ∀ x19 x20 H', Off d l H H' → Deal H' d l →
      tL16 K (Dn Q) [some v0, some (.ref d), some (nV c), some (.ref wa), some hv, some qv, some z1, some z2, some z3, some vv, some rv, some (.ref cl), some bv, x13, x14, x15, x16, x17, x18, x19, x20, none] H') :
    tL13 K (Dn Q) [some v0, some (.ref d), some (nV c), some (.ref wa), some hv, some qv, some z1, some z2, some z3, some vv, some rv, some (.ref cl), some bv, x13, x14, x15, x16, x17, x18, none, none, none] H := by
  obtain ⟨RF, F⟩ := M.fam st D is1 ih
  have c2 := T.c2
  have c4 := T.c4
  refine ⟨_, rfl, _, _, rfl, d, l, 13, rfl, dl, rfl, by decide, by decide, fun r H1 o1 D1 hr => ?_⟩
  have pre1 := pre.mono (off_smi o1 dl)
  have hcl1 := o1 _ _ cd cl' hcl
  refine ⟨_, rfl, _, rfl, _, rfl, _, rfl, _, rfl, ?_⟩
  refine ⟨_, _, _, _, _, _, rfl, D, c, qsW ws, RF, r, pre1, F, rfl, by omega, fun H2 s2 => ?_⟩
  have hc : Mt.cnt (stepL D (othersOf (qsW ws))) c emp r (othersOf (qsW ws)) = cntW ws c r := M.cnt st D is1 ih r
  rw [hc]
  have hle : cntW ws c r < 10 ^ 10 := by
    have h1 := Mt.cnt_le (mv ws) c (finW ws) r (st0 ws)
    have h2 : c ^ r ≤ 4 ^ 12 := Nat.le_trans (Nat.pow_le_pow_left c4 r) (Nat.pow_le_pow_right (by decide) (by omega))
    exact Nat.lt_of_le_of_lt (Nat.le_trans h1 h2) (by decide)
  refine ⟨_, rfl, ?_⟩
  dsimp only [tNil]
  refine repr_of (.int _) (rb_int hle) (by decide) (by decide) (by intro x; simp) ?_
  have hg : (NL ((List.range 13).map (cntW ws c)))[r]? = some (nV (cntW ws c r)) := nl_get (by rw [List.getElem?_map, List.getElem?_range hr]; rfl)
  refine ⟨_, rfl, _, rfl, cl, _, _, _, rfl, rfl, SqL.of (s2 _ _ hcl1), atI_nat hg, ?_⟩
  dsimp only [tNil]
  refine repr_of (.int _) (rb_int hle) (by decide) (by decide) (by intro x; simp) ?_
  refine ⟨rfl, _, rfl, if_f (by simp) ?_⟩
  exact q _ _ _ (o1.trans (off s2)) (D1.same s2)
theorem wrongs {H : Hp} {Q : VK} {d l : Addr} {c : Nat} {σ : L2.St} (c2 : 2 ≤ c) (dl : Deal H d l) (h1 : σ[1]? = some (some (.ref d))) (h2 : σ[2]? = some (some (nV c)))
    (q : ∀ v H', Off d l H H' → Deal H' d l → BadW c H' v → Q v H') :
    tCall sp_law_of [] E0 (tCons (tVar 1) (tCons (tLst (tCons (tLst tNil) (tCons (tLst (tCons (tC (.int 0)) (tCons (tC (.int 0)) tNil))) (tCons (tLst (tCons (tC (.int 1)) (tCons (tC (.int 0)) (tCons (tC (.int 0)) tNil)))) (tCons (tLst (tCons (tVar 2) tNil)) (tCons (tLst (tCons (tOp (rI0 fun i j => .int (i - j)) (tC (.int 0)) (tC (.int 1))) tNil)) (tCons (tLst (tCons (tC (.bl true)) tNil)) (tCons (tC (.non)) (tCons (tC (.str "0")) (tCons (tC (.int 0)) (tCons (tOp rRep (tLst (tCons (tC (.int 0)) (tCons (tC (.int 1)) tNil))) (tC (.int 6))) tNil))))))))))) tNil)) σ H Q := by
  refine ⟨_, h1, Nat.zero_le _, fun l0 n0 => ?_⟩
  have s0 := same_new (o := .lst []) n0
  refine ⟨(by show 2 ≤ sizeLine; decide), fun l1 n1 => ?_⟩
  have s1 := same_new (o := .lst [V.int 0, V.int 0]) n1
  refine ⟨(by show 3 ≤ sizeLine; decide), fun l2 n2 => ?_⟩
  have s2 := same_new (o := .lst [V.int 1, V.int 0, V.int 0]) n2
  refine ⟨_, h2, (by show 1 ≤ sizeLine; decide), fun l3 n3 => ?_⟩
  have s3 := same_new (o := .lst [nV c]) n3
  refine ⟨0, 1, rfl, rfl, (by show 1 ≤ sizeLine; decide), fun l4 n4 => ?_⟩
  have s4 := same_new (o := .lst [V.int (0 - 1)]) n4
  refine ⟨(by show 1 ≤ sizeLine; decide), fun l5 n5 => ?_⟩
  have s5 := same_new (o := .lst [V.bl true]) n5
  refine ⟨(by show 2 ≤ sizeLine; decide), fun l6 n6 => ?_⟩
  have s6 := same_new (o := .lst [V.int 0, V.int 1]) n6
  refine ⟨l6, 6, _, rfl, rfl, upd_same, by decide, by decide, ?_, fun l7 n7 => ?_⟩
  · show 2 * 6 ≤ sizeLine
    decide
  have s7 := same_new (o := .lst (List.replicate (6 : Int).toNat [V.int 0, V.int 1]).flatten) n7
  refine ⟨(by show 10 ≤ sizeLine; decide), fun la na => ?_⟩
  have s8 := same_new (o := .lst [.ref l0, .ref l1, .ref l2, .ref l3, .ref l4, .ref l5, .non, .str "0", .int 0, .ref l7]) na
  have t1 := s0
  have t2 := t1.trans s1
  have t3 := t2.trans s2
  have t4 := t3.trans s3
  have t5 := t4.trans s4
  have t6 := t5.trans s5
  have t7 := t6.trans s6
  have t8 := t7.trans s7
  have t9 := t8.trans s8
  have e0 := s8 _ _ (s7 _ _ (s6 _ _ (s5 _ _ (s4 _ _ (s3 _ _ (s2 _ _ (s1 _ _ (upd_same (H := H) (a := l0) (o := .lst []))))))))) 
  have e1 := s8 _ _ (s7 _ _ (s6 _ _ (s5 _ _ (s4 _ _ (s3 _ _ (s2 _ _ (upd_same (a := l1) (o := .lst [V.int 0, V.int 0]))))))))
  have e2 := s8 _ _ (s7 _ _ (s6 _ _ (s5 _ _ (s4 _ _ (s3 _ _ (upd_same (a := l2) (o := .lst [V.int 1, V.int 0, V.int 0])))))))
  have e3 := s8 _ _ (s7 _ _ (s6 _ _ (s5 _ _ (s4 _ _ (upd_same (a := l3) (o := .lst [nV c]))))))
  have e4 := s8 _ _ (s7 _ _ (s6 _ _ (s5 _ _ (upd_same (a := l4) (o := .lst [V.int (0 - 1)])))))
  have e5 := s8 _ _ (s7 _ _ (s6 _ _ (upd_same (a := l5) (o := .lst [V.bl true]))))
  have e7 := s8 _ _ (upd_same (a := l7) (o := .lst (List.replicate (6 : Int).toNat [V.int 0, V.int 1]).flatten))
  have m0 := dl.ne n0
  have m1 := dl.ne (same_none t1 n1)
  have m2 := dl.ne (same_none t2 n2)
  have m3 := dl.ne (same_none t3 n3)
  have m4 := dl.ne (same_none t4 n4)
  have m5 := dl.ne (same_none t5 n5)
  have m7 := dl.ne (same_none t7 n7)
  have ma := dl.ne (same_none t8 na)
  refine ⟨_, _, rfl, d, l, la, _, rfl, dl.same t9, rfl, ma.1, ma.2, upd_same, by simp, by simp, fun i v H' o D' hv => ?_⟩
  have hm := mem_get hv
  simp only [List.mem_cons, List.not_mem_nil, or_false] at hm
  refine q v H' ((off t9).trans o) D' ?_
  have nr : ∀ {x : Addr}, (x ≠ d ∧ x ≠ l) → ∀ a, V.ref x = .ref a → a ≠ d ∧ a ≠ l := fun h a e => by cases e; exact h
  rcases hm with rfl | rfl | rfl | rfl | rfl | rfl | rfl | rfl | rfl | rfl
  · exact BadW.off o (nr m0) (.empty ⟨l0, rfl, e0⟩)
  · exact BadW.off o (nr m1) (.word [0, 0] ⟨l1, rfl, e1⟩ (by intro x hx; simp at hx; omega) (by simp) (by simp) (.inl ⟨0, 0, rfl, rfl⟩))
  · exact BadW.off o (nr m2) (.word [1, 0, 0] ⟨l2, rfl, e2⟩ (by intro x hx; simp at hx; omega) (by simp) (by simp) (.inl ⟨1, 0, rfl, rfl⟩))
  · exact BadW.off o (nr m3) (.letter l3 (nV c) rfl e3 (.inr ⟨_, rfl, .inr (Int.le_refl _)⟩))
  · exact BadW.off o (nr m4) (.letter l4 _ rfl e4 (.inr ⟨_, rfl, .inl (by decide)⟩))
  · exact BadW.off o (nr m5) (.letter l5 _ rfl e5 (.inl ⟨true, rfl⟩))
  · exact .notSeq (.inr ⟨rfl, .inl rfl⟩)
  · exact .notSeq (.inr ⟨rfl, .inr (.inr (.inr ⟨_, rfl⟩))⟩)
  · exact .notSeq (.inr ⟨rfl, .inr (.inl ⟨_, rfl⟩)⟩)
  · exact BadW.off o (nr m7) (.word [0, 1, 0, 1, 0, 1, 0, 1, 0, 1, 0, 1] ⟨l7, rfl, e7⟩ (by intro x hx; simp at hx; omega) (by simp) (by simp) (.inr ⟨0, by simp, by decide⟩))
theorem law_E2 {Q : VK} {H : Hp} {d l wa : Addr} {v0 : V} {y4 y5 y6 y7 y8 y9 y10 y11 y12 x13 x14 x15 x16 x17 x18 x19 x20 : Option V} {c : Nat} {ws : List (List Nat)} {ps : List Addr} (T : ToldWs c ws) (dl : Deal H d l) (wat : WordsAt H d l wa ps ws)
    (q : ∀ H', Q (.bl true) H') :
    tL16 K (Dn Q) [some v0, some (.ref d), some (nV c), some (.ref wa), y4, y5, y6, y7, y8, y9, y10, y11, y12, x13, x14, x15, x16, x17, x18, x19, x20, none] H := by
  have c2 := T.c2
  have c4 := T.c4
  obtain ⟨wa', wvs, e0, hwa, hwp⟩ := id wat.ls
  cases e0
  have hwl := Paired.len hwp
  have tlen := T.len
  refine ⟨_, rfl, _, rfl, wa, wvs, rfl, .inl (SqL.of hwa), _, 1, rfl, rfl, ?_⟩
  refine ⟨_, _, rfl, d, l, ws.length + 1, rfl, dl, (by rw [hwl]; rfl), by omega, by omega, fun at_ H1 o1 D1 hat => ?_⟩
  refine wrongs c2 D1 rfl rfl fun wr H2 o2 D2 bw => ?_
  have wat2 := wat.off (o1.trans o2)
  obtain ⟨wa', wvs2, e0, hwa2, hwp2⟩ := id wat2.ls
  cases e0
  have hwl2 := Paired.len hwp2
  refine ⟨_, rfl, _, rfl, _, rfl, _, rfl, wa, wvs2, rfl, SqL.of hwa2, fun p1 n1 => ?_⟩
  rw [cut_take (by omega : at_ ≤ wvs2.length)]
  have s1 := same_new (o := .lst (wvs2.take at_)) n1
  refine ⟨_, rfl, (by show 1 ≤ sizeLine; decide), fun p2 n2 => ?_⟩
  have s2 := same_new (o := .lst [wr]) n2
  have tl1 : (wvs2.take at_).length = at_ := by rw [List.length_take]; omega
  refine ⟨p1, p2, _, _, rfl, rfl, s2 _ _ upd_same, upd_same, ?_, fun p3 n3 => ?_⟩
  · rw [tl1]
    exact Nat.le_trans (show at_ + 1 ≤ 1000 by omega) (by decide)
  have s3 := same_new (o := .lst (wvs2.take at_ ++ [wr])) n3
  refine ⟨Nat.zero_le _, fun p4 n4 => ⟨(by show 1 ≤ sizeLine; decide), fun p5 n5 => ?_⟩⟩
  have s4 := same_new (o := .lst []) n4
  have s5 := same_new (o := .lst [.ref p4]) n5
  refine ⟨p3, p5, _, _, rfl, rfl, s5 _ _ (s4 _ _ upd_same), upd_same, ?_, fun p6 n6 => ?_⟩
  · rw [List.length_append, tl1]
    exact Nat.le_trans (show at_ + 1 + 1 ≤ 1000 by omega) (by decide)
  have s6 := same_new (o := .lst (wvs2.take at_ ++ [wr] ++ [.ref p4])) n6
  have s16 := s1.trans (s2.trans (s3.trans (s4.trans (s5.trans s6))))
  have twl : (ws.take at_).length = at_ := by rw [List.length_take]; omega
  have rat : RB (.int ((at_ : Nat) : Int)) 0 10 := rb_int (Nat.lt_of_lt_of_le hat (Nat.le_trans (by omega : ws.length + 1 ≤ 10) (by decide)))
  refine ⟨_, _, rfl, c, ((at_ : Nat) : Int), rfl, c2, c4, .inl ⟨ws.take at_, p6, .L, _, wr, rfl, upd_same, ⟨c2, c4, by omega, fun w hw => T.word w (List.mem_of_mem_take hw), fun x => ?_⟩, fun i wd hi => ?_, ?_, bw.same s16, by rw [twl]⟩, fun H3 s7 => ?_⟩
  · have h1 : (ws.take at_).flatten.count x ≤ ws.flatten.count x := by
      conv => rhs; rw [← List.take_append_drop at_ ws]
      rw [List.flatten_append, List.count_append]
      omega
    have := T.five x
    omega
  · have hil : i < at_ := by
      have := (List.getElem?_eq_some_iff.mp hi).1
      omega
    rw [List.getElem?_take, if_pos hil] at hi
    obtain ⟨v, hv, hv2⟩ := Paired.get hwp2 hi
    refine ⟨v, ?_, SamR.mono s16 hv2⟩
    rw [List.append_assoc, List.getElem?_append_left (by omega), List.getElem?_take, if_pos hil]
    exact hv
  · rw [twl, List.append_assoc, List.getElem?_append_right (by omega), tl1, Nat.sub_self]
    rfl
  dsimp only [tNil]
  refine repr_of (.int _) rat (by decide) (by decide) (by intro x; simp) ?_
  refine ⟨_, rfl, ?_⟩
  dsimp only [tNil]
  refine repr_of (.int _) rat (by decide) (by decide) (by intro x; simp) ?_
  refine ⟨rfl, _, rfl, if_f (by simp) ?_⟩
  -- the last
  have D3 := D2.same (s16.trans s7)
  refine ⟨_, rfl, _, rfl, (by show 4 ≤ sizeLine; decide), fun p8 n8 => ?_⟩
  have s8 := same_new (o := .lst [.non, .int 0, .str "01", .bl true]) n8
  have m8 := D3.ne n8
  refine ⟨_, _, rfl, d, l, p8, _, rfl, D3.same s8, rfl, m8.1, m8.2, upd_same, by simp, by simp, fun i v H4 o4 D4 hv => ?_⟩
  have hm := mem_get hv
  simp only [List.mem_cons, List.not_mem_nil, or_false] at hm
  have hseq : IsSeq H4 v false := by
    rcases hm with rfl | rfl | rfl | rfl
    · exact .inr ⟨rfl, .inl rfl⟩
    · exact .inr ⟨rfl, .inr (.inl ⟨_, rfl⟩)⟩
    · exact .inr ⟨rfl, .inr (.inr (.inr ⟨_, rfl⟩))⟩
    · exact .inr ⟨rfl, .inr (.inr (.inl ⟨_, rfl⟩))⟩
  refine ⟨_, _, rfl, c, -1, rfl, c2, c4, .inr ⟨hseq, rfl⟩, fun H5 s9 => ?_⟩
  dsimp only [tNil]
  refine repr_of (.int _) rb_neg (by decide) (by decide) (by intro x; simp) ?_
  refine ⟨0, 1, rfl, rfl, ?_⟩
  dsimp only [tNil]
  refine repr_of (d := .int (-1)) (.int _) rb_neg (by decide) (by decide) (by intro x; simp) ?_
  refine ⟨rfl, ?_⟩
  rw [decide_eq_true rfl]
  exact q _
end
end K24
set_option Elab.async false
set_option linter.all false
set_option maxRecDepth 100000
set_option maxHeartbeats 4000000
namespace K24
open PySem PySem.Spec PyProof.Rows L2
def sp_law (K : PySem.W.Frag) : Sp := S1 fun v H Q _ => ∃ (a : Addr) (ns : List Int), v = .ref a ∧ SqL K H a (ns.map V.int) ∧ ∀ H', Q (.bl true) H'
section
variable {P : Program} {w : World} {K : PySem.W.Frag} {mg : Str → Option Value}
theorem rd_law_tails (G : Gs K mg) (M : ∀ c ws, ToldWs c ws → WsMath c ws) {vs : List V} {H : Hp} {Q : VK} {E : XK} (h : sp_law K vs H Q E) : tL0 K (Dn Q) (start N_law vs) H := by
  obtain ⟨v, rfl, a, ns, rfl, hS, q⟩ := h
  refine ⟨_, rfl, _, _, rfl, a, ns, 24, rfl, hS, rfl, by decide, by decide, fun d l H1 s1 D1 nd nl => ?_⟩
  refine ⟨_, rfl, _, _, rfl, d, l, 3, rfl, D1, rfl, by decide, by decide, fun r H2 o2 D2 hr => ⟨2, _, rfl, rfl, ?_⟩⟩
  have stepA : ∀ c : Nat, 2 ≤ c → c ≤ 4 → tL2 K (Dn Q) [some (.ref a), some (.ref d), some (nV c), none, none, none, none, none, none, none, none, none, none, none, none, none, none, none, none, none, none, none] H2 := by
    intro c c2 c4
    refine ⟨_, rfl, _, rfl, _, _, rfl, d, l, c, rfl, D2, rfl, c2, c4, fun wa ps ws H3 o3 D3 wat T => ?_⟩
    have M1 := M c ws T
    refine law_B1 G T M1 wat fun hv qv D st ch z1 z2 z3 H4 s4 hs is1 ih tq t1 t2 t3 is3 eD1 eD2 => ?_
    refine law_B2 G T M1 (wat.off (off s4)) hs is1 ih tq t1 t2 t3 is3 eD1 eD2 fun H5 s5 => ?_
    have s45 := s4.trans s5
    refine law_C T M1 (D3.same s45) (wat.off (off s45)) (SamR.mono s5 hs) is1 ih (SamR.mono s5 tq) fun vv rv cl bv H6 s6 pre hcl cd cl' => ?_
    have s46 := s45.trans s6
    have D6 := D3.same s46
    have wat6 := wat.off (off s46)
    refine law_D T M1 D6 wat6 is1 ih pre hcl cd cl' fun x13 x14 x15 x16 x17 x18 H7 o7 D7 => ?_
    refine law_E1 T M1 D7 (wat6.off o7) is1 ih (pre.mono (off_smi o7 D6)) (o7 _ _ cd cl' hcl) cd cl' fun x19 x20 H8 o8 D8 => ?_
    exact law_E2 T D8 (wat6.off (o7.trans o8)) q
  exact stepA (2 + r) (by omega) (by omega)
theorem rd_law (G : Gs K mg) (M : ∀ c ws, ToldWs c ws → WsMath c ws) {vs : List V} {H : Hp} {Q : VK} {E : XK} (h : sp_law K vs H Q E) :
    t_law P w K (sp_law_dealt K) sp_law_told_words (sp_sup0 K) sp_law_built sp_law_most sp_law_any (sp_count_words K) sp_law_of (sp_cell_view K) (sp_fewest_looks K) (sp_Houseinit K) sp_law_word sp_law_moved (sp_word_settles K) (sp_law_refused K) (sp_shortest_word K) sp_has_scattered (sp_Houseeq K) (Dn Q) (start N_law vs) H :=
  rd_law_tails G M h
end
end K24
set_option Elab.async false
set_option linter.all false
set_option maxRecDepth 100000
set_option maxHeartbeats 4000000
/-! each def keeps its promise -/
namespace K24
open PySem PySem.Spec PyProof.Rows L2
structure Ats (K : PySem.W.Frag) (mg : Str → Option Value) : Prop where
  a_is_integer : At K mg "is_integer" s_is_integer
  a_is_number : At K mg "is_number" s_is_number
  a_is_sequence : At K mg "is_sequence" s_is_sequence
  a_wrong_size : At K mg "wrong_size" s_wrong_size
  a_fits_sizes : At K mg "fits_sizes" s_fits_sizes
  a_wrong_standing : At K mg "wrong_standing" s_wrong_standing
  a_wrong_change : At K mg "wrong_change" s_wrong_change
  a_need_house : At K mg "need_house" s_need_house
  a_need_question : At K mg "need_question" s_need_question
  a_is_window : At K mg "is_window" s_is_window
  a_need_view : At K mg "need_view" s_need_view
  a_cell_view : At K mg "cell_view" s_cell_view
  a_seen_at : At K mg "seen_at" s_seen_at
  a_shown_contents : At K mg "shown_contents" s_shown_contents
  a_is_shown : At K mg "is_shown" s_is_shown
  a_need_row : At K mg "need_row" s_need_row
  a_need_word : At K mg "need_word" s_need_word
  a_need_sight : At K mg "need_sight" s_need_sight
  a_led_lot : At K mg "led_lot" s_led_lot
  a_left_lot : At K mg "left_lot" s_left_lot
  a_dying_lots : At K mg "dying_lots" s_dying_lots
  a_word_settles : At K mg "word_settles" s_word_settles
  a_shortest_word : At K mg "shortest_word" s_shortest_word
  a_fewest_looks : At K mg "fewest_looks" s_fewest_looks
  a_need_letters : At K mg "need_letters" s_need_letters
  a_has_scattered : At K mg "has_scattered" s_has_scattered
  a_superword_house : At K mg "superword_house" s_superword_house
  a_need_length : At K mg "need_length" s_need_length
  a_settled_tables : At K mg "settled_tables" s_settled_tables
  a_count_words : At K mg "count_words" s_count_words
  a_law_dealt : At K mg "_law_dealt" s_law_dealt
  a_law_any : At K mg "_law_any" s_law_any
  a_law_of : At K mg "_law_of" s_law_of
  a_law_word : At K mg "_law_word" s_law_word
  a_law_told_word : At K mg "_law_told_word" s_law_told_word
  a_law_told_words : At K mg "_law_told_words" s_law_told_words
  a_law_built : At K mg "_law_built" s_law_built
  a_law_moved : At K mg "_law_moved" s_law_moved
  a_law_most : At K mg "_law_most" s_law_most
  a_law_refused : At K mg "_law_refused" s_law_refused
  hI : ∃ fd dvs, dvs.length = 2 ∧ FunD K "__init__" "House.__init__" (defArgs s_Houseinit) (defBody s_Houseinit) (defScope s_Houseinit) dvs [] (He.ma K (cH K) "__init__") fd
  hE : ∃ fd, FunD K "__eq__" "House.__eq__" (defArgs s_Houseeq) (defBody s_Houseeq) (defScope s_Houseeq) [] [] (He.ma K (cH K) "__eq__") fd
  hL : ∃ fd, FunD K "__len__" "House.__len__" (defArgs s_Houselen) (defBody s_Houselen) (defScope s_Houselen) [] [] (He.ma K (cH K) "__len__") fd
section
variable {P : Program} {w : World} {K : PySem.W.Frag} {mg : Str → Option Value} {base : Heap}
theorem ok_is_integer (A : Ats K mg) (G : Gs K mg) : C8.Cal P w K mg base 1 "is_integer" sp_is_integer [] :=
  mk_cal A.a_is_integer sc_is_integer (fun _ _ _ _ h => s1_len h) (fun _ _ _ _ _ _ us hl => match us, hl with | [_], _ => rfl) (fun cdv A' outer s H vs Q E f hr h => ⟨_, dv_is_integer G hr, rd_is_integer h⟩)
theorem ok_is_number (A : Ats K mg) (G : Gs K mg) : C8.Cal P w K mg base 2 "is_number" sp_is_number [] :=
  mk_cal A.a_is_number sc_is_number (fun _ _ _ _ h => s1_len h) (fun _ _ _ _ _ _ us hl => match us, hl with | [_], _ => rfl) (fun cdv A' outer s H vs Q E f hr h => ⟨_, dv_is_number G (ok_is_integer A G) hr, rd_is_number h⟩)
theorem ok_is_sequence (A : Ats K mg) (G : Gs K mg) : C8.Cal P w K mg base 1 "is_sequence" sp_is_sequence [] :=
  mk_cal A.a_is_sequence sc_is_sequence (fun _ _ _ _ h => s1_len h) (fun _ _ _ _ _ _ us hl => match us, hl with | [_], _ => rfl) (fun cdv A' outer s H vs Q E f hr h => ⟨_, dv_is_sequence G hr, rd_is_sequence h⟩)
theorem ok_wrong_size (A : Ats K mg) (G : Gs K mg) : C8.Cal P w K mg base 3 "wrong_size" sp_wrong_size [] :=
  mk_cal A.a_wrong_size sc_wrong_size (fun _ _ _ _ h => s1_len h) (fun _ _ _ _ _ _ us hl => match us, hl with | [_], _ => rfl) (fun cdv A' outer s H vs Q E f hr h => ⟨_, dv_wrong_size G (ok_is_sequence A G) (ok_is_number A G) hr, rd_wrong_size h⟩)
theorem ok_fits_sizes (A : Ats K mg) (G : Gs K mg) : C8.Cal P w K mg base 3 "fits_sizes" sp_fits_sizes [] :=
  mk_cal A.a_fits_sizes sc_fits_sizes (fun _ _ _ _ h => s2_len h) (fun _ _ _ _ _ _ us hl => match us, hl with | [_, _], _ => rfl) (fun cdv A' outer s H vs Q E f hr h => ⟨_, dv_fits_sizes G (ok_is_sequence A G) (ok_is_number A G) hr, rd_fits_sizes h⟩)
theorem ok_wrong_standing (A : Ats K mg) (G : Gs K mg) : C8.Cal P w K mg base 4 "wrong_standing" sp_wrong_standing [] :=
  mk_cal A.a_wrong_standing sc_wrong_standing (fun _ _ _ _ h => s2_len h) (fun _ _ _ _ _ _ us hl => match us, hl with | [_, _], _ => rfl) (fun cdv A' outer s H vs Q E f hr h => ⟨_, dv_wrong_standing G (ok_is_sequence A G) (ok_fits_sizes A G) hr, rd_wrong_standing h⟩)
theorem ok_wrong_change (A : Ats K mg) (G : Gs K mg) : C8.Cal P w K mg base 3 "wrong_change" sp_wrong_change [] :=
  mk_cal A.a_wrong_change sc_wrong_change (fun _ _ _ _ h => s2_len h) (fun _ _ _ _ _ _ us hl => match us, hl with | [_, _], _ => rfl) (fun cdv A' outer s H vs Q E f hr h => ⟨_, dv_wrong_change G (ok_is_sequence A G) (ok_is_number A G) hr, rd_wrong_change h⟩)
theorem ok_Houselen (A : Ats K mg) (G : Gs K mg) : C8.Met P w K mg base 1 (cH K) "__len__" (sp_Houselen K) [] := by
  obtain ⟨fd, F⟩ := A.hL
  refine ⟨_, fd, _, [], G.cls, G.t_len, F.ok sc_Houselen (fun _ _ _ _ h => s1_len h) (fun cdv A' outer s H vs Q E hr h => ⟨_, (dv_Houselen G hr).nox, rd_Houselen G h⟩), F.bindsN (fun _ _ _ _ _ _ us hl => match us, hl with | [_], _ => rfl), .nil⟩
theorem ok_Houseinit (A : Ats K mg) (G : Gs K mg) : C8.Mak P w K mg base 5 "House" (cH K) (sp_Houseinit K) [] := by
  obtain ⟨fd, dvs, hl, F⟩ := A.hI
  obtain ⟨ds, v, b⟩ := F.binds1 (ps := ["self", "sizes", "standings", "changes"]) 4 2 (fun z => by rw [z] at hl; cases hl) (by rw [hl]; rfl) fun T kV doc pm an cdv ct us its h1 h2 => by
    rw [hl] at h2
    match us, h1, its, h2 with
    | [_, _, _, _], _, [_, _], _ => exact ⟨_, rfl, rfl⟩
  have e : dvs.drop 2 = [] := List.drop_eq_nil_of_le (by omega)
  rw [e] at v
  refine ⟨_, fd, _, ds, G.mkH, F.ok sc_Houseinit (fun _ _ _ _ h => s4_len h) (fun cdv A' outer s H vs Q E hr h => ⟨_, (dv_Houseinit G (ok_wrong_size A G) (ok_wrong_standing A G) (ok_wrong_change A G) (ok_is_sequence A G) hr).nox, rd_Houseinit G h⟩), G.g_House, b, v⟩
theorem ok_Houseeq (A : Ats K mg) (G : Gs K mg) : C8.Met P w K mg base 1 (cH K) "__eq__" (sp_Houseeq K) [] := by
  obtain ⟨fd, F⟩ := A.hE
  refine ⟨_, fd, _, [], G.cls, G.t_eq, F.ok sc_Houseeq (fun _ _ _ _ h => s2_len h) (fun cdv A' outer s H vs Q E hr h => ⟨_, (dv_Houseeq G hr).nox, rd_Houseeq G h⟩), F.bindsN (fun _ _ _ _ _ _ us hl => match us, hl with | [_, _], _ => rfl), .nil⟩
theorem ok_need_house (A : Ats K mg) (G : Gs K mg) : C8.Cal P w K mg base 1 "need_house" (sp_need_house K) [] :=
  mk_cal A.a_need_house sc_need_house (fun _ _ _ _ h => s1_len h) (fun _ _ _ _ _ _ us hl => match us, hl with | [_], _ => rfl) (fun cdv A' outer s H vs Q E f hr h => ⟨_, dv_need_house G hr, rd_need_house h⟩)
theorem ok_need_question (A : Ats K mg) (G : Gs K mg) : C8.Cal P w K mg base 3 "need_question" (sp_need_question K) [] :=
  mk_cal A.a_need_question sc_need_question (fun _ _ _ _ h => s2_len h) (fun _ _ _ _ _ _ us hl => match us, hl with | [_, _], _ => rfl) (fun cdv A' outer s H vs Q E f hr h => ⟨_, dv_need_question G (ok_need_house A G) (ok_is_sequence A G) (ok_is_number A G) (ok_Houselen A G) hr, rd_need_question h⟩)
theorem ok_is_window (A : Ats K mg) (G : Gs K mg) : C8.Cal P w K mg base 3 "is_window" (sp_is_window K) [] :=
  mk_cal A.a_is_window sc_is_window (fun _ _ _ _ h => s2_len h) (fun _ _ _ _ _ _ us hl => match us, hl with | [_, _], _ => rfl) (fun cdv A' outer s H vs Q E f hr h => ⟨_, dv_is_window G (ok_is_sequence A G) (ok_is_number A G) hr, rd_is_window G h⟩)
theorem ok_need_view (A : Ats K mg) (G : Gs K mg) : C8.Cal P w K mg base 4 "need_view" (sp_need_view K) [] :=
  mk_cal A.a_need_view sc_need_view (fun _ _ _ _ h => s2_len h) (fun _ _ _ _ _ _ us hl => match us, hl with | [_, _], _ => rfl) (fun cdv A' outer s H vs Q E f hr h => ⟨_, dv_need_view G (ok_need_house A G) (ok_is_sequence A G) (ok_is_window A G) hr, rd_need_view h⟩)
theorem ok_cell_view (A : Ats K mg) (G : Gs K mg) : C8.Cal P w K mg base 2 "cell_view" (sp_cell_view K) [] :=
  mk_cal A.a_cell_view sc_cell_view (fun _ _ _ _ h => s1_len h) (fun _ _ _ _ _ _ us hl => match us, hl with | [_], _ => rfl) (fun cdv A' outer s H vs Q E f hr h => ⟨_, dv_cell_view G (ok_need_house A G) hr, rd_cell_view G h⟩)
theorem ok_seen_at (A : Ats K mg) (G : Gs K mg) : C8.Cal P w K mg base 1 "seen_at" (sp_seen_at K) [] :=
  mk_cal A.a_seen_at sc_seen_at (fun _ _ _ _ h => s3_len h) (fun _ _ _ _ _ _ us hl => match us, hl with | [_, _, _], _ => rfl) (fun cdv A' outer s H vs Q E f hr h => ⟨_, dv_seen_at G hr, rd_seen_at G h⟩)
theorem ok_shown_contents (A : Ats K mg) (G : Gs K mg) : C8.Cal P w K mg base 3 "shown_contents" (sp_shown_contents K) [] :=
  mk_cal A.a_shown_contents sc_shown_contents (fun _ _ _ _ h => s2_len h) (fun _ _ _ _ _ _ us hl => match us, hl with | [_, _], _ => rfl) (fun cdv A' outer s H vs Q E f hr h => ⟨_, dv_shown_contents G (ok_seen_at A G) (ok_Houselen A G) hr, rd_shown_contents h⟩)
theorem ok_is_shown (A : Ats K mg) (G : Gs K mg) : C8.Cal P w K mg base 3 "is_shown" sp_is_shown [] :=
  mk_cal A.a_is_shown sc_is_shown (fun _ _ _ _ h => s2_len h) (fun _ _ _ _ _ _ us hl => match us, hl with | [_, _], _ => rfl) (fun cdv A' outer s H vs Q E f hr h => ⟨_, dv_is_shown G (ok_is_number A G) hr, rd_is_shown h⟩)
theorem ok_need_row (A : Ats K mg) (G : Gs K mg) : C8.Cal P w K mg base 4 "need_row" (sp_need_row K) [] :=
  mk_cal A.a_need_row sc_need_row (fun _ _ _ _ h => s3_len h) (fun _ _ _ _ _ _ us hl => match us, hl with | [_, _, _], _ => rfl) (fun cdv A' outer s H vs Q E f hr h => ⟨_, dv_need_row G (ok_shown_contents A G) (ok_is_shown A G) hr, rd_need_row h⟩)
theorem ok_need_word (A : Ats K mg) (G : Gs K mg) : C8.Cal P w K mg base 3 "need_word" sp_need_word [] :=
  mk_cal A.a_need_word sc_need_word (fun _ _ _ _ h => s2_len h) (fun _ _ _ _ _ _ us hl => match us, hl with | [_, _], _ => rfl) (fun cdv A' outer s H vs Q E f hr h => ⟨_, dv_need_word G (ok_is_sequence A G) (ok_is_number A G) hr, rd_need_word h⟩)
theorem ok_need_sight (A : Ats K mg) (G : Gs K mg) : C8.Cal P w K mg base 5 "need_sight" (sp_need_sight K) [] :=
  mk_cal A.a_need_sight sc_need_sight (fun _ _ _ _ h => s5_len h) (fun _ _ _ _ _ _ us hl => match us, hl with | [_, _, _, _, _], _ => rfl) (fun cdv A' outer s H vs Q E f hr h => ⟨_, dv_need_sight G (ok_need_house A G) (ok_need_view A G) (ok_need_question A G) (ok_need_row A G) (ok_seen_at A G) hr, rd_need_sight h⟩)
theorem ok_led_lot (A : Ats K mg) (G : Gs K mg) : C8.Cal P w K mg base 1 "led_lot" (sp_led_lot K) [] :=
  mk_cal A.a_led_lot sc_led_lot (fun _ _ _ _ h => s3_len h) (fun _ _ _ _ _ _ us hl => match us, hl with | [_, _, _], _ => rfl) (fun cdv A' outer s H vs Q E f hr h => ⟨_, dv_led_lot G hr, rd_led_lot G h⟩)
theorem ok_left_lot (A : Ats K mg) (G : Gs K mg) : C8.Cal P w K mg base 2 "left_lot" (sp_left_lot K) [] :=
  mk_cal A.a_left_lot sc_left_lot (fun _ _ _ _ h => s4_len h) (fun _ _ _ _ _ _ us hl => match us, hl with | [_, _, _, _], _ => rfl) (fun cdv A' outer s H vs Q E f hr h => ⟨_, dv_left_lot G (ok_led_lot A G) hr, rd_left_lot h⟩)
theorem ok_dying_lots (A : Ats K mg) (G : Gs K mg) : C8.Cal P w K mg base 6 "dying_lots" (sp_dying_lots K) [] :=
  mk_cal A.a_dying_lots sc_dying_lots (fun _ _ _ _ h => s6_len h) (fun _ _ _ _ _ _ us hl => match us, hl with | [_, _, _, _, _, _], _ => rfl) (fun cdv A' outer s H vs Q E f hr h => ⟨_, dv_dying_lots G (ok_need_sight A G) (ok_need_word A G) (ok_left_lot A G) hr, rd_dying_lots h⟩)
theorem ok_word_settles (A : Ats K mg) (G : Gs K mg) : C8.Cal P w K mg base 7 "word_settles" (sp_word_settles K) [] :=
  mk_cal A.a_word_settles sc_word_settles (fun _ _ _ _ h => s6_len h) (fun _ _ _ _ _ _ us hl => match us, hl with | [_, _, _, _, _, _], _ => rfl) (fun cdv A' outer s H vs Q E f hr h => ⟨_, dv_word_settles G (ok_dying_lots A G) hr, rd_word_settles h⟩)
theorem ok_shortest_word (A : Ats K mg) (G : Gs K mg) : C8.Cal P w K mg base 6 "shortest_word" (sp_shortest_word K) [] :=
  mk_cal A.a_shortest_word sc_shortest_word (fun _ _ _ _ h => s5_len h) (fun _ _ _ _ _ _ us hl => match us, hl with | [_, _, _, _, _], _ => rfl) (fun cdv A' outer s H vs Q E f hr h => ⟨_, dv_shortest_word G (ok_need_sight A G) (ok_left_lot A G) hr, rd_shortest_word h⟩)
theorem ok_fewest_looks (A : Ats K mg) (G : Gs K mg) : C8.Cal P w K mg base 7 "fewest_looks" (sp_fewest_looks K) [] :=
  mk_cal A.a_fewest_looks sc_fewest_looks (fun _ _ _ _ h => s5_len h) (fun _ _ _ _ _ _ us hl => match us, hl with | [_, _, _, _, _], _ => rfl) (fun cdv A' outer s H vs Q E f hr h => ⟨_, dv_fewest_looks G (ok_shortest_word A G) hr, rd_fewest_looks h⟩)
theorem ok_need_letters (A : Ats K mg) (G : Gs K mg) : C8.Cal P w K mg base 3 "need_letters" sp_need_letters [] :=
  mk_cal A.a_need_letters sc_need_letters (fun _ _ _ _ h => s1_len h) (fun _ _ _ _ _ _ us hl => match us, hl with | [_], _ => rfl) (fun cdv A' outer s H vs Q E f hr h => ⟨_, dv_need_letters G (ok_is_sequence A G) (ok_is_number A G) hr, rd_need_letters h⟩)
theorem ok_has_scattered (A : Ats K mg) (G : Gs K mg) : C8.Cal P w K mg base 4 "has_scattered" sp_has_scattered [] :=
  mk_cal A.a_has_scattered sc_has_scattered (fun _ _ _ _ h => s2_len h) (fun _ _ _ _ _ _ us hl => match us, hl with | [_, _], _ => rfl) (fun cdv A' outer s H vs Q E f hr h => ⟨_, dv_has_scattered G (ok_need_letters A G) hr, rd_has_scattered h⟩)
theorem ok_need_length (A : Ats K mg) (G : Gs K mg) : C8.Cal P w K mg base 3 "need_length" sp_need_length [] :=
  mk_cal A.a_need_length sc_need_length (fun _ _ _ _ h => s1_len h) (fun _ _ _ _ _ _ us hl => match us, hl with | [_], _ => rfl) (fun cdv A' outer s H vs Q E f hr h => ⟨_, dv_need_length G (ok_is_number A G) hr, rd_need_length h⟩)
theorem ok_settled_tables (A : Ats K mg) (G : Gs K mg) : C8.Cal P w K mg base 3 "settled_tables" (sp_settled_tables K) [] :=
  mk_cal A.a_settled_tables sc_settled_tables (fun _ _ _ _ h => s4_len h) (fun _ _ _ _ _ _ us hl => match us, hl with | [_, _, _, _], _ => rfl) (fun cdv A' outer s H vs Q E f hr h => ⟨_, dv_settled_tables G (ok_left_lot A G) hr, rd_settled_tables h⟩)
theorem ok_count_words (A : Ats K mg) (G : Gs K mg) : C8.Cal P w K mg base 6 "count_words" (sp_count_words K) [] :=
  mk_cal A.a_count_words sc_count_words (fun _ _ _ _ h => s6_len h) (fun _ _ _ _ _ _ us hl => match us, hl with | [_, _, _, _, _, _], _ => rfl) (fun cdv A' outer s H vs Q E f hr h => ⟨_, dv_count_words G (ok_need_sight A G) (ok_need_length A G) (ok_settled_tables A G) hr, rd_count_words h⟩)
theorem ok_law_dealt (A : Ats K mg) (G : Gs K mg) : C8.Cal P w K mg base 1 "_law_dealt" (sp_law_dealt K) [] :=
  mk_cal A.a_law_dealt sc_law_dealt (fun _ _ _ _ h => s2_len h) (fun _ _ _ _ _ _ us hl => match us, hl with | [_, _], _ => rfl) (fun cdv A' outer s H vs Q E f hr h => ⟨_, dv_law_dealt G hr, rd_law_dealt h⟩)
theorem ok_law_any (A : Ats K mg) (G : Gs K mg) : C8.Cal P w K mg base 1 "_law_any" sp_law_any [] :=
  mk_cal A.a_law_any sc_law_any (fun _ _ _ _ h => s2_len h) (fun _ _ _ _ _ _ us hl => match us, hl with | [_, _], _ => rfl) (fun cdv A' outer s H vs Q E f hr h => ⟨_, dv_law_any G hr, rd_law_any h⟩)
theorem ok_law_of (A : Ats K mg) (G : Gs K mg) : C8.Cal P w K mg base 2 "_law_of" sp_law_of [] :=
  mk_cal A.a_law_of sc_law_of (fun _ _ _ _ h => s2_len h) (fun _ _ _ _ _ _ us hl => match us, hl with | [_, _], _ => rfl) (fun cdv A' outer s H vs Q E f hr h => ⟨_, dv_law_of G (ok_law_any A G) hr, rd_law_of h⟩)
theorem ok_law_word (A : Ats K mg) (G : Gs K mg) : C8.Cal P w K mg base 2 "_law_word" sp_law_word [] :=
  mk_cal A.a_law_word sc_law_word (fun _ _ _ _ h => s3_len h) (fun _ _ _ _ _ _ us hl => match us, hl with | [_, _, _], _ => rfl) (fun cdv A' outer s H vs Q E f hr h => ⟨_, dv_law_word G (ok_law_any A G) hr, rd_law_word h⟩)
theorem ok_law_told_word (A : Ats K mg) (G : Gs K mg) : C8.Cal P w K mg base 2 "_law_told_word" sp_law_told_word [] :=
  mk_cal A.a_law_told_word sc_law_told_word (fun _ _ _ _ h => s2_len h) (fun _ _ _ _ _ _ us hl => match us, hl with | [_, _], _ => rfl) (fun cdv A' outer s H vs Q E f hr h => ⟨_, dv_law_told_word G (ok_law_any A G) hr, rd_law_told_word h⟩)
theorem ok_law_told_words (A : Ats K mg) (G : Gs K mg) : C8.Cal P w K mg base 3 "_law_told_words" sp_law_told_words [] :=
  mk_cal A.a_law_told_words sc_law_told_words (fun _ _ _ _ h => s2_len h) (fun _ _ _ _ _ _ us hl => match us, hl with | [_, _], _ => rfl) (fun cdv A' outer s H vs Q E f hr h => ⟨_, dv_law_told_words G (ok_law_told_word A G) (ok_law_any A G) hr, rd_law_told_words h⟩)
theorem ok_law_built (A : Ats K mg) (G : Gs K mg) : C8.Cal P w K mg base 1 "_law_built" sp_law_built [] :=
  mk_cal A.a_law_built sc_law_built (fun _ _ _ _ h => s2_len h) (fun _ _ _ _ _ _ us hl => match us, hl with | [_, _], _ => rfl) (fun cdv A' outer s H vs Q E f hr h => ⟨_, dv_law_built G hr, rd_law_built h⟩)
theorem ok_law_moved (A : Ats K mg) (G : Gs K mg) : C8.Cal P w K mg base 1 "_law_moved" sp_law_moved [] :=
  mk_cal A.a_law_moved sc_law_moved (fun _ _ _ _ h => s3_len h) (fun _ _ _ _ _ _ us hl => match us, hl with | [_, _, _], _ => rfl) (fun cdv A' outer s H vs Q E f hr h => ⟨_, dv_law_moved G hr, rd_law_moved h⟩)
theorem ok_law_most (A : Ats K mg) (G : Gs K mg) : C8.Cal P w K mg base 2 "_law_most" sp_law_most [] :=
  mk_cal A.a_law_most sc_law_most (fun _ _ _ _ h => s3_len h) (fun _ _ _ _ _ _ us hl => match us, hl with | [_, _, _], _ => rfl) (fun cdv A' outer s H vs Q E f hr h => ⟨_, dv_law_most G (ok_law_moved A G) hr, rd_law_most h⟩)
theorem okX_superword_house (A : Ats K mg) (G : Gs K mg) {fI cc cda : Addr} (T : RfTxt P K mg (cR K) fI cc cda) : CalX P w K mg base 7 "superword_house" ["cells", "words"] (sp_superword_house K) := by
  obtain ⟨f, fd, F, gf⟩ := A.a_superword_house.ex
  exact ⟨f, fd, F.ok (CX := L2.CX P w) sc_superword_house (fun _ _ _ _ h => s2_len h) (fun cdv A' outer s H vs Q E hr h => ⟨_, dv_superwordX G T (ok_Houseinit A G) (ok_is_sequence A G) (ok_is_number A G) hr, rd_superword_house h⟩), gf, F.kp, F.bindsN (fun _ _ _ _ _ _ us hl => match us, hl with | [_, _], _ => rfl)⟩
theorem ok_superword_house (A : Ats K mg) (G : Gs K mg) {fI cc cda : Addr} (T : RfTxt P K mg (cR K) fI cc cda) : C8.Cal P w K mg base 7 "superword_house" (sp_sup0 K) [] := by
  obtain ⟨f, fd, F, gf, kp, b⟩ := (okX_superword_house (P := P) (w := w) (base := base) A G T).ex
  exact ⟨f, fd, _, [], fn_calm F, gf, kp, b, .nil⟩
theorem okK_superword_house (A : Ats K mg) (G : Gs K mg) {fI cc cda : Addr} (T : RfTxt P K mg (cR K) fI cc cda) : CalK P w K mg base 7 "superword_house" ks_superword_house gV_superword_house (sp_sup0 K) := by
  obtain ⟨f, fd, F, gf⟩ := A.a_superword_house.ex
  exact ⟨f, fd, _, g2, fn_calm (F.ok (CX := L2.CX P w) sc_superword_house (fun _ _ _ _ h => s2_len h) (fun cdv A' outer s H vs Q E hr h => ⟨_, dv_superwordX G T (ok_Houseinit A G) (ok_is_sequence A G) (ok_is_number A G) hr, rd_superword_house h⟩)), gf, F.kp, kb2 F fun _ _ _ _ _ _ _ _ => rfl⟩
theorem ok_law_refused (A : Ats K mg) (G : Gs K mg) {fI cc cda : Addr} (T : RfTxt P K mg (cR K) fI cc cda) : C8.Cal P w K mg base 8 "_law_refused" (sp_law_refused K) [] := by
  obtain ⟨f, fd, F, gf⟩ := A.a_law_refused.ex
  exact ⟨f, fd, _, [], F.ok sc_law_refused (fun _ _ _ _ h => s2_len h) (fun cdv A' outer s H vs Q E hr h => ⟨_, dv_law_refused T (okX_superword_house A G T) hr, rd_law_refused T h⟩), gf, F.kp, F.bindsN (fun _ _ _ _ _ _ us hl => match us, hl with | [_, _], _ => rfl), .nil⟩
theorem okK_has_scattered (A : Ats K mg) (G : Gs K mg) : CalK P w K mg base 4 "has_scattered" ks_has_scattered gV_has_scattered sp_has_scattered := by
  obtain ⟨f, fd, F, gf⟩ := A.a_has_scattered.ex
  exact ⟨f, fd, _, g2, F.ok sc_has_scattered (fun _ _ _ _ h => s2_len h) (fun cdv A' outer s H vs Q E hr h => ⟨_, (dv_has_scattered G (ok_need_letters A G) hr).nox, rd_has_scattered h⟩), gf, F.kp, kb2 F fun _ _ _ _ _ _ _ _ => rfl⟩
theorem okK_count_words (A : Ats K mg) (G : Gs K mg) : CalK P w K mg base 6 "count_words" ks_count_words gV_count_words (sp_count_words K) := by
  obtain ⟨f, fd, F, gf⟩ := A.a_count_words.ex
  exact ⟨f, fd, _, g6, F.ok sc_count_words (fun _ _ _ _ h => s6_len h) (fun cdv A' outer s H vs Q E hr h => ⟨_, (dv_count_words G (ok_need_sight A G) (ok_need_length A G) (ok_settled_tables A G) hr).nox, rd_count_words h⟩), gf, F.kp, kb6 F fun _ _ _ _ _ _ _ _ _ _ _ _ => rfl⟩
end
end K24
set_option Elab.async false
set_option linter.all false
set_option maxRecDepth 100000
set_option maxHeartbeats 4000000
/-! the law called from the row's end: as HandS.Ends and fn_of do it, at the one Around callerA (whose guards are none as yet: repr asks that) -/
namespace K24
open PySem PySem.Spec PyProof.Rows L2
section
variable {P : Program} {w : World} {K : PySem.W.Frag} {mg mb : Str → Option Value}
theorem guardsA (env : Env) : (callerA.deeper env).guards = some [] := rfl
theorem roomA : Room 9 callerA := ⟨rfl, by decide, by decide⟩
/-- the law's run at callerA -/
theorem law_at {base : Heap} {f : Addr} {fd : FuncData} (F : FnP K "law" s_law f fd) {fI cc cda : Addr} (A : Ats K mg) (G : Gs K mg) (T : RfTxt P K mg (cR K) fI cc cda) (M : ∀ c ws, ToldWs c ws → WsMath c ws)
    {s : Shared} {H : Hp} {a : Addr} {ns : List Int} (e0 : Env0 P w K mg base callerA [] s H) (hb : BindsTo s fd ⟨[.ref a], []⟩ [("_law_script", .ref a)]) (hS : SqL K H a (ns.map V.int)) :
    codeAny (model P w) callerA (.call (.ref f) ⟨[.ref a], []⟩) (CR CX0 [] P w H s (fun v _ => v = .bl true) E0) s := by
  obtain ⟨oc, od, dV, kV, doc, pm, an, cdv, ct, osl, rfl, lk, hcd, _, _⟩ := F.ex
  have keep : ∀ b o, base.get? b = some o → s.heap.get? b = some o := fun b o e => (e0.bs b o e).1
  have KX : K.In s.heap := e0.mod.kin.keeps keep
  have lim : s.heap.NoLimit := e0.mod.nolimit.keeps keep
  have S := sc_law
  refine codeAny_call_function roomA.depth (KX _ _ lk) rfl S.co S.gen rfl (PySem.W.codeRec_of KX hcd) (hb _ _ _ _ ?_)
  refine wpAny_newFunctionEnv_cells S.kind (fun y hy => ?_) fun env he s1 x => ?_
  · rcases S.par y.1 (List.of_mem_zip (show y ∈ (["_law_script"] : List Str).zip [Value.ref a] from hy)).1 with q | q
    · exact .inl q
    · exact .inr ⟨q, PySem.W.cellsFrom_some _ _ _ (.inl q)⟩
  subst he
  refine ⟨lim.keeps x.toInCall.keep, codeAny_func ?_⟩
  have I := inv_start (CX := CX0) (vs := [V.ref a]) (E := E0) S roomA.hd e0 rfl (.cons rfl .nil) x
  have d := (dv_law (P := P) (w := w) (base := base) G (ok_law_dealt A G) (ok_law_told_words A G) (ok_superword_house A G T) (okK_superword_house A G T) (ok_law_built A G) (ok_law_most A G) (ok_law_any A G) (okK_count_words A G) (ok_law_of A G) (ok_cell_view A G) (ok_fewest_looks A G) (ok_Houseinit A G) (ok_law_word A G) (ok_law_moved A G) (ok_word_settles A G) (ok_law_refused A G T) (ok_shortest_word A G) (okK_has_scattered A G) (ok_Houseeq A G) (outer := []) (s := s) (H := H) (E := E0) (f := f) (cdv := cdv) (guardsA _) (roomA.deeper _)).nox
  have hq := rd_law (P := P) (w := w) (E := E0) G M (vs := [V.ref a]) (H := H) (Q := fun v _ => v = V.bl true) ⟨_, rfl, a, ns, rfl, hS, fun _ => rfl⟩
  refine wpAny_mono (d.run [] s1 (start N_law [V.ref a]) H _ I hq) (fun fl s' hs => ?_) fun e s' hs => hs
  have fin : ∀ {σ' : L2.St} {H' : Hp} {v : V} {u : Value}, Inv (cxOf CX0 P w K mg base N_law "law" (defScope s_law) f cdv callerA [] s H E0) [] σ' H' s' → RelV v u → v = V.bl true → CE [] P w H s (fun v _ => v = V.bl true) u s' :=
    fun {σ' H' v u} J rv q => ⟨v, H', J.os, J.bare, J.base, J.hok, rv, q⟩
  cases fl with
  | ret u =>
    obtain ⟨v, σ', H', J, rv, q⟩ := hs
    exact fin J rv q
  | next =>
    obtain ⟨σ', H', J, q⟩ := hs
    exact fin (v := V.non) (u := Value.none) J rfl q
  | brk =>
    obtain ⟨_, _, _, q⟩ := hs
    exact False.elim q
  | cont =>
    obtain ⟨_, _, _, q⟩ := hs
    exact False.elim q
/-- the law's call, the script tracked or one of the module's own objects -/
theorem law_from {f : Addr} {fd : FuncData} (F : FnP K "law" s_law f fd) {fI cc cda : Addr} (A : Ats K mg) (G : Gs K mg) (T : RfTxt P K mg (cR K) fI cc cda) (M : ∀ c ws, ToldWs c ws → WsMath c ws)
    {s₁ : Shared} {a : Addr} {vs : List Value} {ns : List Int} (KX : K.In s₁.heap) (hns : s₁.heap.Ns mainGlobals mg) (hb : s₁.heap.Ns builtinsNs mb) (hbb : ∀ x : Str, x ≠ "__name__" → mb x = bootBuiltins x) (hlim : s₁.heap.NoLimit) (hg : s₁.gens = #[])
    (ha : s₁.heap.get? a = some { cls := .type "list", data := .seq vs.toArray }) (hi : IntsAre vs ns) (hl : ns.length ≤ sizeLine) (hbind : BindsTo s₁ fd ⟨[.ref a], []⟩ [("_law_script", .ref a)]) :
    codeAny (model P w) callerA (.call (.ref f) ⟨[.ref a], []⟩) (fun r s' => r = .ok (.ret (.bool true)) ∧ OldK s₁.heap s'.heap ∧ s'.os = s₁.os ∧ AllBare s'.gens) s₁ := by
  have rv := vals_ints hi
  have lenV := hi.length
  have run : ∀ H : Hp, Only H → SqL K H a (ns.map V.int) → HOk P w H s₁.heap → (∀ b, H b ≠ none → b = a ∧ K.lookup a = none) →
      codeAny (model P w) callerA (.call (.ref f) ⟨[.ref a], []⟩) (fun r s' => r = .ok (.ret (.bool true)) ∧ OldK s₁.heap s'.heap ∧ s'.os = s₁.os ∧ AllBare s'.gens) s₁ := by
    intro H hO hS hok hA
    have free : ∀ {b : Addr} {o : Obj}, s₁.heap.get? b = some o → (b = a → K.lookup a = none → False) → H b = none := fun {b o} e no => by
      cases q : H b with
      | none => rfl
      | some u =>
        obtain ⟨e1, e2⟩ := hA b (by rw [q]; simp)
        exact (no e1 e2).elim
    have ns2 : ∀ {b : Addr} {m : Str → Option Value}, s₁.heap.Ns b m → (hidT s₁.heap H).Ns b m := fun {b m} ⟨o, es, ep, e, d, r⟩ => ⟨o, es, ep, hidT_get e (free e fun e1 _ => by
      subst e1
      rw [ha] at e
      cases e
      have d' : Data.seq vs.toArray _ = Data.dict es ep := d
      cases d'), d, r⟩
    have KB : K.In (hidT s₁.heap H) := fun b o e => hidT_get (KX b o e) (free (KX b o e) fun e1 e2 => by subst e1; rw [e2] at e; cases e)
    have md : Mod K mg (hidT s₁.heap H) := ⟨KB, ns2 hns, ⟨mb, ns2 hb, hbb⟩, let ⟨mc, h1, h2⟩ := hlim; ⟨mc, ns2 h1, h2⟩⟩
    have e0 : Env0 P w K mg (hidT s₁.heap H) callerA [] s₁ H := ⟨rfl, md, fun b o e => of_hidT e, Nat.le_of_eq (hidT_size _ _), trivial, fun b hb => absurd (show b ∈ ([] : List Addr) from hb) (by simp), hok, .of_eq hg⟩
    refine codeAny_mono (law_at F A G T M e0 hbind hS) fun r s' h => ?_
    cases r with
    | error e => exact h.elim
    | ok fl =>
      cases fl with
      | next => exact False.elim h
      | brk => exact False.elim h
      | cont => exact False.elim h
      | ret u =>
        obtain ⟨v, H', os, bare, un, hok', r', q⟩ := h
        have q' : v = .bl true := q
        subst q'
        obtain rfl : u = Value.bool true := r'
        refine ⟨rfl, OldK.of_keep fun b o e => ?_, os, bare⟩
        rcases hO b with z | ⟨ob, xs, z⟩
        · exact un.keep b o e z (by intro z; exact absurd (show b ∈ ([] : List Addr) from z) (by simp)) (by simp)
        · obtain ⟨e1, _⟩ := hok b _ z
          obtain ⟨e2, _⟩ := hok' b _ (un.frzs b ob _ z)
          rw [e] at e1
          cases e1
          exact e2
  cases hk : K.lookup a with
  | some o =>
    have e := KX a o hk
    rw [ha] at e
    cases e
    exact run (fun _ => none) (fun _ => .inl rfl) (.inr ⟨_, vs.toArray, _, hk, rfl, rfl, rfl, by rw [List.size_toArray, lenV]; exact hl, by simpa using rv⟩) (fun b u z => by have z' : (none : Option HO) = some u := z; cases z') fun b z => absurd rfl z
  | none =>
    refine run (fun b => if b = a then some (.frz { cls := .type "list", data := .seq vs.toArray } (.lst (ns.map V.int))) else none) (fun b => ?_) (.inl (.inr ⟨{ cls := .type "list", data := .seq vs.toArray }, if_pos rfl⟩)) (fun b u z => ?_) fun b z => ?_
    · by_cases hb : b = a
      · exact .inr ⟨_, _, if_pos hb⟩
      · exact .inl (if_neg hb)
    · by_cases hb : b = a
      · have z' := (if_pos hb).symm.trans z
        cases z'
        subst hb
        exact ⟨ha, by rw [List.length_map]; exact hl, vs, _, rv, ha⟩
      · have z' := (if_neg hb).symm.trans z
        cases z'
    · by_cases hb : b = a
      · exact ⟨hb, hk⟩
      · exact absurd (if_neg hb) z
end
end K24
set_option Elab.async false
set_option linter.all false
set_option maxRecDepth 100000
set_option maxHeartbeats 4000000
/-! what the head is asked of Refused, House -/
namespace K24
open PySem PySem.Spec PySem.W PySem.Calls PyProof.Rows
def refObj (K : Frag) (C HE : Addr) : Bool := match K.lookup C with
  | some ⟨.type "type", _, .cls cd, sl⟩ => (match sl.toList with
    | [_, _, _, _, some (.builtin n), _] => decide (n = "Exception.__new__")
    | _ => false) && (decide (cd.mro = .ref C :: .ref HE :: ESX.exTail) && (cd.hasDict && !cd.hasDel))
  | _ => false
theorem refObj_ok {K : Frag} {C HE : Addr} (h : refObj K C HE = true) : ∃ nm q N bs sn sub ab col dd k0 k1 k2 k3 k5, K.lookup C = some (excClassObj nm q C N bs (.ref HE :: ESX.exTail) true sn sub ab col dd k0 k1 k2 k3 k5 "Exception.__new__") := by
  unfold refObj at h
  split at h
  · rename_i dd cd sl e
    rw [Bool.and_eq_true, Bool.and_eq_true, Bool.and_eq_true] at h
    obtain ⟨h1, h2, h3, h4⟩ := h
    have h2 := of_decide_eq_true h2
    split at h1
    · rename_i k0 k1 k2 k3 n k5 es
      have h1 := of_decide_eq_true h1
      obtain ⟨nm, bs, mro, ns, qn, hd, sn, sb, ab, col, del⟩ := cd
      dsimp only at h2 h3 h4
      subst h1 h2 h3
      have h5 : del = false := by cases del <;> first | rfl | cases h4
      subst h5
      have h6 : sl = #[k0, k1, k2, k3, some (.builtin "Exception.__new__"), k5] := by
        apply Array.toList_inj.mp
        rw [es]
      subst h6
      exact ⟨nm, qn, ns, bs, sn, sb, ab, col, dd, k0, k1, k2, k3, k5, e⟩
    · cases h1
  · cases h
def cellB (K : Frag) (cc : Addr) (C : Addr) : Bool := match K.lookup cc with
  | some ⟨_, _, .cell (some v), _⟩ => decide (v = .ref C)
  | _ => false
theorem cellB_ok {K : Frag} {cc C : Addr} (h : cellB K cc C = true) : ∃ cl cld csl, K.lookup cc = some ⟨cl, cld, .cell (some (.ref C)), csl⟩ := by
  unfold cellB at h
  split at h
  · rename_i a b v c e
    have h := of_decide_eq_true h
    subst h
    exact ⟨_, _, _, e⟩
  · cases h
def fileB (K : Frag) (cda : Addr) (f : Str) : Bool := match K.lookup cda with
  | some ⟨_, _, .fields vs, _⟩ => (match (vs[2]? : Option Value) with
    | some (Value.str x _) => decide (x = f)
    | _ => false)
  | _ => false
theorem fileB_ok {K : Frag} {cda : Addr} {f : Str} (h : fileB K cda f = true) : ∃ ccl cdd vs ccs tf, K.lookup cda = some ⟨ccl, cdd, .fields vs, ccs⟩ ∧ vs[2]? = some (.str f tf) := by
  unfold fileB at h
  split at h
  · rename_i a b vs c e
    split at h
    · rename_i x t e2
      have h := of_decide_eq_true h
      subst h
      exact ⟨_, _, _, _, _, e, e2⟩
    · cases h
  · cases h
abbrev FnC : Type := Option (Str × Str × Arguments × FuncBody × Scope × Addr × List Str × Addr)
def fnC (K : Frag) (p : Addr) : FnC := match K.lookup p with
  | some ⟨_, _, .func fd, _⟩ => some (fd.name, fd.qualname, fd.params, fd.body, fd.scope, fd.globals, fd.closure.map (·.1), fd.builtins)
  | _ => none
def valC : FnC := some ("__init__", "Refused.__init__", rfA, .stmts rfB, rfS, mainGlobals, ["__class__"], builtinsNs)
def fnE (K : Frag) (fI C : Addr) (f : Str) : Bool := match K.lookup fI with
  | some ⟨_, _, .func fd, _⟩ => decide (fd.defaults = .none) && (decide (fd.kwdefaults = .none) && (match fd.closure, fd.code with
    | [(_, cc)], .ref cda => cellB K cc C && (fileB K cda f && codeIn K (.ref cda) "Refused.__init__")
    | _, _ => false))
  | _ => false
theorem fnE_ok {K : Frag} {fI C : Addr} {f : Str} (h : fnE K fI C f = true) (e : fnC K fI = valC) : ∃ cc cda, (∃ cl cld csl, K.lookup cc = some ⟨cl, cld, .cell (some (.ref C)), csl⟩) ∧ (∃ ccl cdd vs ccs tf, K.lookup cda = some ⟨ccl, cdd, .fields vs, ccs⟩ ∧ vs[2]? = some (.str f tf)) ∧
    ∃ oc od doc pm an ct osl, K.lookup fI = some ⟨oc, od, .func (ksFn "__init__" "Refused.__init__" rfA rfB rfS .none .none doc pm an (.ref cda) ct cc), osl⟩ ∧ codeIn K (.ref cda) "Refused.__init__" = true := by
  unfold fnE at h
  unfold fnC valC at e
  cases q : K.lookup fI with
  | none => rw [q] at h; cases h
  | some o =>
    obtain ⟨oc, od, dt, osl⟩ := o
    rw [q] at h e
    cases dt with
    | func fd =>
      obtain ⟨n1, n2, n3, n4, n5, n6, n7, n8, n9, n10, n11, n12, n13, n14, n15⟩ := fd
      simp only [Option.some.injEq, Prod.mk.injEq] at e
      obtain ⟨h1, h2, h3, h4, h5, h6, h7, h8⟩ := e
      subst h1 h2 h3 h4 h5 h6 h8
      dsimp only at h
      rw [Bool.and_eq_true, Bool.and_eq_true] at h
      obtain ⟨g1, g2, g3⟩ := h
      have g1' := of_decide_eq_true g1
      have g2' := of_decide_eq_true g2
      subst g1'
      subst g2'
      split at g3
      · rename_i nm cc cda
        rw [Bool.and_eq_true, Bool.and_eq_true] at g3
        obtain ⟨g4, g5, g6⟩ := g3
        simp at h7
        subst h7
        exact ⟨cc, cda, cellB_ok g4, fileB_ok g5, oc, od, _, _, _, _, osl, rfl, g6⟩
      · cases g3
    | _ => cases h
end K24
set_option Elab.async false
set_option linter.all false
set_option maxRecDepth 100000
set_option maxHeartbeats 0
/-! the head's hook -/
namespace K24
open PySem PySem.Spec PySem.W PySem.Calls PyProof.Rows
abbrev PW24 : Program := PySem.Challenge.pw_onceitwas_k24_whole_houses_made_for_told
abbrev rI (K : Frag) : Addr := He.ma K (cR K) "__init__"
abbrev rH (K : Frag) : Addr := He.ga K "HouseError"
def refP (K : Frag) : Prop :=
  alongIn K "__init__" (.ref (rH K) :: ESX.exTail) = some (some (.builtin "Exception.__init__")) ∧ findIn K (.ref (cR K)) "__setattr__" = some (some (.builtin "object.__setattr__")) ∧
  findIn K (.ref (cR K)) "__getattribute__" = some (some (.builtin "BaseException.__getattribute__")) ∧ findIn K (.ref (cR K)) "__getattr__" = some none ∧ findIn K (.ref (cR K)) "at" = some none ∧
  findIn K (.ref (cR K)) "__init__" = some (some (.ref (rI K))) ∧ typeIn K (.ref (rI K)) = some (.type "function") ∧ keepIn K (.ref (cR K)) = true ∧ subIn K (.ref (cR K)) (.type "BaseException") = some true ∧
  subIn K (.ref (cR K)) (.type "Exception") = some true ∧ typeIn K (.ref (cR K)) = some (.type "type") ∧ hasDictIn K (cR K) = true ∧ exmOne K (.ref (cR K)) (.ref (cR K)) = some true ∧ mroIn K (cR K) (.ref (cR K)) = some true ∧
  nsIn K cStatics "thirdparty.any" = some none ∧ nsIn K mainGlobals "super" = some none
def insP (K : Frag) : Prop :=
  findIn K (.ref (cH K)) "__class__" = some (some (.builtin "object.__class__")) ∧ specialIn K (.builtin "object.__class__") "__get__" = some (some (.builtin "getset_descriptor.__get__")) ∧ takesIn K (.builtin "object.__class__") = some true ∧
  mroIn K (cH K) (.type "object") = some true ∧ kitOne K (.ref (cH K)) (.ref (cH K)) = some true
instance (K : Frag) : Decidable (refP K) := by unfold refP; infer_instance
instance (K : Frag) : Decidable (insP K) := by unfold insP; infer_instance
def exB (K : Frag) : Bool := decide (refP K) && (decide (insP K) && (refObj K (cR K) (rH K) && fnE K (rI K) (cR K) PW24.main.file))
theorem rf_of {K : Frag} {h : Heap} {mg : Str → Option Value} (X : K.In h) (G : h.Ns mainGlobals mg) (c : He.SaysD fa fn K) (e : exB K = true) (ec : fnC K (rI K) = valC) :
    (∃ cc cda, RfTxt PW24 K mg (cR K) (rI K) cc cda) ∧ C8.InsC K (cH K) := by
  unfold exB at e
  rw [Bool.and_eq_true, Bool.and_eq_true, Bool.and_eq_true] at e
  obtain ⟨e1, e2, e3, e4⟩ := e
  obtain ⟨a1, a2, a3, a4, a5, a6, a7, a8, a9, a10, a11, a12, a13, a14, a15, a16⟩ := of_decide_eq_true e1
  obtain ⟨b1, b2, b3, b4, b5⟩ := of_decide_eq_true e2
  obtain ⟨nm, q, N, bs, sn, sub, ab, col, dd, k0, k1, k2, k3, k5, hC⟩ := refObj_ok e3
  obtain ⟨cc, cda, f1, f2, f3⟩ := fnE_ok e4 ec
  refine ⟨⟨cc, cda, ?_⟩, He.cls_ok (c.fact 63 (f := .cls "House") rfl), b1, b2, b3, b4, b5⟩
  exact { gC := He.glo_ok X G (c.fact 42 (f := .glo "Refused") rfl), cls := ⟨nm, q, N, bs, rH K, sn, sub, ab, col, dd, k0, k1, k2, k3, k5, hC, a1⟩, sa := a2, ga := a3, gg := a4, noN := a5, iC := a6, tC := a7, kC := a8, exC := a9, exX := a10, tyC := a11, hdC := a12, te := a13, sC := a14, own := a15, sup := a16, cell := f1, code := f2, top := by decide +kernel, fn := f3 }
/-! the hook -/
def asR (g : Addr → Option Obj) : Nat → List Addr
  | 0 => [mainGlobals, cStatics]
  | n + 1 => He.growD g (asR g n)
abbrev AlR : Type := He.AlD × Bool × FnC
def obsK (K : Frag) : AlR := (He.obsD fa fn K, exB K, fnC K (rI K))
def obsR (n : Nat) (g : Addr → Option Obj) : AlR := obsK (He.frG g (asR g n))
def valR : AlR := (He.valD fn, true, valC)
def hookR (n : Nat) : PySem.W.Hook where
  α := AlR
  obs := fun s => obsR n s.heap.get?
  val := fun _ => valR
  says := fun _ h => ∃ K : Frag, K.In h ∧ He.SaysD fa fn K ∧ exB K = true ∧ fnC K (rI K) = valC
  of := fun _ _ e => ⟨_, He.frG_in, congrArg (fun z : AlR => z.1) e, congrArg (fun z : AlR => z.2.1) e, congrArg (fun z : AlR => z.2.2) e⟩
  keeps := fun _ _ _ ⟨K, hK, c⟩ k => ⟨K, Frag.In.keeps hK k, c⟩
theorem obsR_eq {n : Nat} {g : Addr → Option Obj} {s : Shared} (h : ∀ a, g a = s.heap.get? a) : obsR n g = (hookR n).obs s := by
  have e : g = s.heap.get? := funext h
  rw [e] <;> rfl
end K24
set_option Elab.async false
set_option linter.all false
set_option maxRecDepth 100000
set_option maxHeartbeats 0
namespace K24
open PySem PySem.Spec PyProof.Rows L2
abbrev R : PySem.W.OpenRow := PySem.W.OpenLaw.row PySem.Challenge.rw_onceitwas_k24_whole_houses_made_for_told
abbrev hk : PySem.W.Hook := hookR 6
def ob (s : PySem.W.SharedT) : AlR := obsR 6 (HandSHeadRun.getT s)
theorem ob_eq (s : PySem.W.SharedT) : ob s = hk.obs s.abs := obsR_eq (HandSHeadRun.getT_eq s)
theorem head_run (w : World) : HandSHeadRun.RunEq R (PySem.W.view R.prog [64]) hk ob 5000 names w := by
  intro os
  kernel_rfl
end K24
set_option Elab.async false
set_option linter.all false
set_option maxRecDepth 100000
set_option maxHeartbeats 0
namespace K24
open PySem PySem.Spec PyProof.Rows L2
theorem at_of {K : PySem.W.Frag} {h : Heap} {mg : Str → Option Value} (X : K.In h) (G : h.Ns mainGlobals mg) (c : He.SaysD fa fn K) (i : Nat) {x : Str} {st : Stmt} (h1 : fn[i]? = some ⟨(x, none), x, x, defArgs st, defBody st, defScope st, [], []⟩) (h2 : fa[i]? = some (.glo x)) : At K mg x st := by
  obtain ⟨fd, F⟩ := c.def_ i h1
  exact ⟨_, fd, F, He.glo_ok X G (c.fact i h2)⟩
theorem ats_of {K : PySem.W.Frag} {h : Heap} {mg : Str → Option Value} (X : K.In h) (G : h.Ns mainGlobals mg) (c : He.SaysD fa fn K) : Ats K mg where
  a_is_integer := at_of X G c 0 rfl rfl
  a_is_number := at_of X G c 1 rfl rfl
  a_is_sequence := at_of X G c 2 rfl rfl
  a_wrong_size := at_of X G c 3 rfl rfl
  a_fits_sizes := at_of X G c 4 rfl rfl
  a_wrong_standing := at_of X G c 5 rfl rfl
  a_wrong_change := at_of X G c 6 rfl rfl
  a_need_house := at_of X G c 7 rfl rfl
  a_need_question := at_of X G c 8 rfl rfl
  a_is_window := at_of X G c 9 rfl rfl
  a_need_view := at_of X G c 10 rfl rfl
  a_cell_view := at_of X G c 11 rfl rfl
  a_seen_at := at_of X G c 12 rfl rfl
  a_shown_contents := at_of X G c 13 rfl rfl
  a_is_shown := at_of X G c 14 rfl rfl
  a_need_row := at_of X G c 15 rfl rfl
  a_need_word := at_of X G c 16 rfl rfl
  a_need_sight := at_of X G c 17 rfl rfl
  a_led_lot := at_of X G c 18 rfl rfl
  a_left_lot := at_of X G c 19 rfl rfl
  a_dying_lots := at_of X G c 20 rfl rfl
  a_word_settles := at_of X G c 21 rfl rfl
  a_shortest_word := at_of X G c 22 rfl rfl
  a_fewest_looks := at_of X G c 23 rfl rfl
  a_need_letters := at_of X G c 24 rfl rfl
  a_has_scattered := at_of X G c 25 rfl rfl
  a_superword_house := at_of X G c 26 rfl rfl
  a_need_length := at_of X G c 27 rfl rfl
  a_settled_tables := at_of X G c 28 rfl rfl
  a_count_words := at_of X G c 29 rfl rfl
  a_law_dealt := at_of X G c 30 rfl rfl
  a_law_any := at_of X G c 31 rfl rfl
  a_law_of := at_of X G c 32 rfl rfl
  a_law_word := at_of X G c 33 rfl rfl
  a_law_told_word := at_of X G c 34 rfl rfl
  a_law_told_words := at_of X G c 35 rfl rfl
  a_law_built := at_of X G c 36 rfl rfl
  a_law_moved := at_of X G c 37 rfl rfl
  a_law_most := at_of X G c 38 rfl rfl
  a_law_refused := at_of X G c 39 rfl rfl
  hI := by
    obtain ⟨fd, F⟩ := c.def_ 41 (d := d_Houseinit) rfl
    exact ⟨fd, _, rfl, F⟩
  hE := by
    obtain ⟨fd, F⟩ := c.def_ 42 (d := d_Houseeq) rfl
    exact ⟨fd, F⟩
  hL := by
    obtain ⟨fd, F⟩ := c.def_ 43 (d := d_Houselen) rfl
    exact ⟨fd, F⟩
theorem law_end (M : ∀ c ws, ToldWs c ws → WsMath c ws) {w : World} {mg mb : Str → Option Value} {s₁ : Shared} {f a : Addr} {vs : List Value} {ns : List Int} {K : PySem.W.Frag} (KX : K.In s₁.heap) (c : He.SaysD fa fn K) (ex : exB K = true) (ec : fnC K (rI K) = valC)
    (hns : s₁.heap.Ns mainGlobals mg) (hb : s₁.heap.Ns builtinsNs mb) (hbb : ∀ x : Str, x ≠ "__name__" → mb x = bootBuiltins x) (hlim : s₁.heap.NoLimit) (hg : s₁.gens = #[]) (hmg : mg ("law" : Str) = some (.ref f))
    (ha : s₁.heap.get? a = some { cls := .type "list", data := .seq vs.toArray }) (hi : IntsAre vs ns) (hl : ns.length ≤ sizeLine) :
    codeAny (model PW24 w) callerA (.call (.ref f) ⟨[.ref a], []⟩) (fun r s' => r = .ok (.ret (.bool true)) ∧ OldK s₁.heap s'.heap ∧ s'.os = s₁.os ∧ AllBare s'.gens) s₁ := by
  obtain ⟨⟨cc, cda, T⟩, hIns⟩ := rf_of KX hns c ex ec
  have nf : PySem.W.notFirst K (cH K) (.ref (cH K)) = true := by
    unfold PySem.W.notFirst
    rw [beq_self_eq_true]
    rfl
  have Gs := gs_of KX hns c hIns nf
  obtain ⟨fd, F⟩ := c.def_ 40 (d := d_law) rfl
  have e := hmg.symm.trans (He.glo_ok KX hns (c.fact 40 (f := .glo "law") rfl))
  cases e
  exact law_from F (ats_of KX hns c) Gs T M KX hns hb hbb hlim hg ha hi hl (FunD.bindsA (ps := ["_law_script"]) F (fun _ _ _ _ _ _ us hl => match us, hl with | [_], _ => rfl) s₁ [.ref a] rfl)
end K24
open PySem PySem.W PySem.Calls PyProof.Rows
theorem K24.holds_of (M : ∀ c ws, K24.ToldWs c ws → K24.WsMath c ws) : PySem.Challenge.rw_onceitwas_k24_whole_houses_made_for_told.Holds := by
  w_on; o_law
  refine HandSHeadRun.head_any (r := OpenLaw.row PySem.Challenge.rw_onceitwas_k24_whole_houses_made_for_told) (q := view (OpenLaw.row PySem.Challenge.rw_onceitwas_k24_whole_houses_made_for_told).prog [64]) (H := K24.hk) (ob := K24.ob) (M := 5000) (loose := K24.names) (d := HandSHeadRun.topDef (OpenLaw.row PySem.Challenge.rw_onceitwas_k24_whole_houses_made_for_told).prog 64) (kwd := []) K24.ob_eq
    (by kernel_rfl) (fun s => by kernel_rfl) K24.head_run (by kernel_rfl) (by kernel_rfl) (by kernel_rfl) (by rfl) (by first | assumption | decide +kernel) (by decide +kernel) ⟨rfl, rfl, rfl, rfl, rfl, by decide +kernel⟩ ?hw ?hc
  case hw => w_witness2
  case hc =>
    refine Att.attach_call (l := PySem.Challenge.rw_onceitwas_k24_whole_houses_made_for_told) (n := 63) rfl (by kernel_rfl) fun w s₀ s₁ mg mb fa o pm cd doc a vs ns G Y ho hd hcd hmg0 hobj hints hlen hg => ?_
    obtain ⟨K, KX, c, ex, ec⟩ := Y
    have hmg : mg ("law" : PySem.Str) = some (.ref fa) := by
      have e : (HandSHeadRun.topDef (OpenLaw.row PySem.Challenge.rw_onceitwas_k24_whole_houses_made_for_told).prog 64).name = ("law" : PySem.Str) := by kernel_rfl
      rw [← e]
      exact hmg0
    exact K24.law_end M KX c ex ec G.T.g G.T.b G.T.builtins G.T.nolimit hg hmg hobj hints (Nat.le_trans hlen (by decide))
set_option Elab.async false
set_option linter.all false
set_option maxRecDepth 100000
set_option maxHeartbeats 4000000
/-! plain maths: the sort is unique -/
namespace K24
open PySem PySem.Spec PyProof.Rows L2
theorem perm_sorted_eq {α : Type} {le : α → α → Prop} : ∀ {l l' : List α}, (∀ a ∈ l, ∀ b ∈ l, le a b → le b a → a = b) → l.Perm l' → l.Pairwise le → l'.Pairwise le → l = l'
  | [], l', _, p, _, _ => (List.nil_perm.mp p).symm
  | x :: r, l', h, p, h1, h2 => by
    cases l' with
    | nil => exact absurd p.length_eq (by simp)
    | cons y q =>
      rw [List.pairwise_cons] at h1 h2
      have hy : y ∈ x :: r := p.mem_iff.mpr (by simp)
      have hx : x ∈ y :: q := p.mem_iff.mp (by simp)
      have e : x = y := by
        rcases List.mem_cons.mp hy with e | hy'
        · exact e.symm
        · rcases List.mem_cons.mp hx with e | hx'
          · exact e
          · exact h x (by simp) y hy (h1.1 y hy') (h2.1 x hx')
      subst e
      rw [perm_sorted_eq (fun a ha b hb => h a (List.mem_cons_of_mem _ ha) b (List.mem_cons_of_mem _ hb)) ((List.perm_cons x).mp p) h1.2 h2.2]
theorem code_inj : ∀ {a b : List Nat}, a.length = b.length → (∀ x ∈ a, x < 64) → (∀ x ∈ b, x < 64) → TS.code 64 (toI a) = TS.code 64 (toI b) → a = b
  | [], [], _, _, _, _ => rfl
  | x :: a, y :: b, hl, ha, hb, h => by
    have hl' : a.length = b.length := by simpa using hl
    have hli : (toI a).length = (toI b).length := by unfold toI; rw [List.length_map, List.length_map]; exact hl'
    have ba := bd_toI (c := a) fun x hx => ha x (List.mem_cons_of_mem _ hx)
    have bb := bd_toI (c := b) fun x hx => hb x (List.mem_cons_of_mem _ hx)
    have h' : TS.code 64 ((x : Int) :: toI a) = TS.code 64 ((y : Int) :: toI b) := h
    have e : x = y := by
      rcases Nat.lt_trichotomy x y with z | z | z
      · have := TS.code_lt (B := 64) (d := (x : Int)) (e := (y : Int)) hli ba bb (by omega)
        omega
      · exact z
      · have := TS.code_lt (B := 64) (d := (y : Int)) (e := (x : Int)) hli.symm bb ba (by omega)
        omega
    subst e
    have e2 : TS.code 64 (toI a) = TS.code 64 (toI b) := by
      rcases Int.lt_trichotomy (TS.code 64 (toI a)) (TS.code 64 (toI b)) with z | z | z
      · have := (TS.code_same (B := 64) (d := (x : Int)) hli).mpr z
        omega
      · exact z
      · have := (TS.code_same (B := 64) (d := (x : Int)) hli.symm).mpr z
        omega
    rw [code_inj hl' (fun x hx => ha x (List.mem_cons_of_mem _ hx)) (fun x hx => hb x (List.mem_cons_of_mem _ hx)) e2]
theorem sort_uniq {d : Nat} {cs st st' : List (List Nat)} (hc : ∀ r ∈ cs, r.length = d ∧ ∀ y ∈ r, y < 64) (a : IsSort cs st) (b : IsSort cs st') : st = st' := by
  refine perm_sorted_eq (le := cdle) (fun x hx y hy h1 h2 => ?_) (a.perm.trans b.perm.symm) a.pw b.pw
  have h3 := hc x (a.perm.mem_iff.mp hx)
  have h4 := hc y (a.perm.mem_iff.mp hy)
  exact code_inj (h3.1.trans h4.1.symm) h3.2 h4.2 (Int.le_antisymm h1 h2)
theorem rows_sort_uniq {c : Nat} {ws : List (List Nat)} (T : ToldWs c ws) {st st' : List (List Nat)} (a : IsSort (rowsU c ws.flatten) st) (b : IsSort (rowsU c ws.flatten) st') : st = st' :=
  sort_uniq (d := c) (fun r hr => row_lt hr (by have := told_len T; omega)) a b
theorem idx_bd {c : Nat} {us ks : List Nat} {st : List (List Nat)} (h : st.length < 63) : ∀ r ∈ idxPairs c us ks st, r.length = 2 ∧ ∀ y ∈ r, y < 64 := by
  intro r hr
  obtain ⟨pq, _, rfl⟩ := List.mem_map.mp hr
  refine ⟨rfl, fun y hy => ?_⟩
  have i1 := List.idxOf_le_length (a := pq.1) (l := st)
  have i2 := List.idxOf_le_length (a := pq.2) (l := st)
  simp at hy
  omega
theorem idx_sort_uniq {c : Nat} {ws : List (List Nat)} (T : ToldWs c ws) {st ch ch' : List (List Nat)} (s : IsSort (rowsU c ws.flatten) st) (a : IsSort (idxPairs c ws.flatten (startsFrom 0 ws) st) ch) (b : IsSort (idxPairs c ws.flatten (startsFrom 0 ws) st) ch') : ch = ch' := by
  have tl := told_len T
  have sl : st.length = ws.flatten.length + 1 := by rw [s.perm.length_eq, rowsU_len]
  exact sort_uniq (d := 2) (idx_bd (by omega)) a b
end K24
set_option Elab.async false
set_option linter.all false
set_option maxRecDepth 100000
set_option maxHeartbeats 4000000
/-! plain maths: the rows differ -/
namespace K24
open PySem PySem.Spec PyProof.Rows L2
theorem rowAt_get {c y : Nat} {us : List Nat} (k : Nat) (h : y < c) : (rowAt c us k)[y]? = some (if y = us.getD k 0 then (us.take (k + 1)).count (us.getD k 0) else 0) := by
  unfold rowAt
  exact unitR_get h
theorem take_last {us : List Nat} {k : Nat} (h : k < us.length) : us.take (k + 1) = us.take k ++ [us.getD k 0] := by
  rw [List.take_succ, List.getElem?_eq_getElem h, List.getD_eq_getElem?_getD, List.getElem?_eq_getElem h]
  rfl
theorem cnt_pos {us : List Nat} {k : Nat} (h : k < us.length) : 1 ≤ (us.take (k + 1)).count (us.getD k 0) := by
  rw [take_last h, List.count_append]
  simp
theorem cnt_lt {us : List Nat} {k k' : Nat} (h : k < k') (h' : k' < us.length) (e : us.getD k' 0 = us.getD k 0) : (us.take (k + 1)).count (us.getD k 0) < (us.take (k' + 1)).count (us.getD k' 0) := by
  rw [take_last h', List.count_append, e]
  have h1 : (us.take (k + 1)).count (us.getD k 0) ≤ (us.take k').count (us.getD k 0) := by
    have : us.take (k + 1) = (us.take k').take (k + 1) := by rw [List.take_take, Nat.min_eq_left (by omega)]
    rw [this]
    exact List.Sublist.count_le _ (List.take_sublist _ _)
  rw [List.count_singleton_self]
  omega
theorem rowAt_inj {c : Nat} {us : List Nat} (lt : ∀ x ∈ us, x < c) {k k' : Nat} (h : k < k') (h' : k' < us.length) : rowAt c us k ≠ rowAt c us k' := fun e => by
  have hk : k < us.length := by omega
  have hm : us.getD k 0 ∈ us := by
    rw [List.getD_eq_getElem?_getD, List.getElem?_eq_getElem hk]
    exact List.getElem_mem hk
  have hy := lt _ hm
  have h1 := rowAt_get (us := us) k hy
  rw [e, rowAt_get k' hy, if_pos rfl] at h1
  have h2 := Option.some.inj h1
  have p := cnt_pos hk
  by_cases z : us.getD k 0 = us.getD k' 0
  · rw [if_pos z] at h2
    have := cnt_lt h h' z.symm
    omega
  · rw [if_neg z] at h2
    omega
theorem rowAt_ne0 {c : Nat} {us : List Nat} (lt : ∀ x ∈ us, x < c) {k : Nat} (hk : k < us.length) : rowAt c us k ≠ List.replicate c 0 := fun e => by
  have hm : us.getD k 0 ∈ us := by
    rw [List.getD_eq_getElem?_getD, List.getElem?_eq_getElem hk]
    exact List.getElem_mem hk
  have hy := lt _ hm
  have h1 := rowAt_get (us := us) k hy
  rw [e, if_pos rfl, List.getElem?_replicate, if_pos hy] at h1
  have := Option.some.inj h1
  have p := cnt_pos hk
  omega
theorem rows_nodup {c : Nat} {us : List Nat} (lt : ∀ x ∈ us, x < c) : (rowsU c us).Nodup := by
  unfold rowsU
  rw [List.nodup_cons]
  refine ⟨fun h => ?_, ?_⟩
  · obtain ⟨k, hk, e⟩ := List.mem_map.mp h
    exact rowAt_ne0 lt (List.mem_range.mp hk) e
  · unfold List.Nodup
    rw [List.pairwise_map]
    refine List.Pairwise.imp_of_mem ?_ List.pairwise_lt_range
    intro a b ha hb hab
    exact rowAt_inj lt hab (List.mem_range.mp hb)
theorem told_lt {c : Nat} {ws : List (List Nat)} (T : ToldWs c ws) : ∀ x ∈ ws.flatten, x < c := fun x hx => by
  obtain ⟨w, hw, hxw⟩ := List.mem_flatten.mp hx
  exact (T.word w hw).lt x hxw
end K24
set_option Elab.async false
set_option linter.all false
set_option maxRecDepth 100000
set_option maxHeartbeats 4000000
/-! plain maths: what the house is given -/
namespace K24
open PySem PySem.Spec PyProof.Rows L2
theorem idxOf_inj' {st : List (List Nat)} {a b : List Nat} (ha : a ∈ st) (hb : b ∈ st) (h : st.idxOf a = st.idxOf b) : a = b := by
  have h1 : st[st.idxOf a]? = some a := by
    have := List.idxOf_lt_length_of_mem ha
    rw [List.getElem?_eq_getElem this, List.getElem_idxOf]
  have h2 : st[st.idxOf b]? = some b := by
    have := List.idxOf_lt_length_of_mem hb
    rw [List.getElem?_eq_getElem this, List.getElem_idxOf]
  rw [h, h2] at h1
  exact (Option.some.inj h1).symm
theorem starts_ge : ∀ (o : Nat) (ws : List (List Nat)), ∀ k ∈ startsFrom o ws, o ≤ k
  | _, [], k, hk => by cases hk
  | o, v :: r, k, hk => by
    simp only [startsFrom] at hk
    rcases List.mem_append.mp hk with h | h
    · obtain ⟨j, _, rfl⟩ := List.mem_map.mp h
      omega
    · have := starts_ge (o + v.length) r k h
      omega
theorem starts_inc (o : Nat) (ws : List (List Nat)) : (startsFrom o ws).Pairwise (· < ·) := by
  induction ws generalizing o with
  | nil => exact .nil
  | cons v r ih =>
    simp only [startsFrom]
    rw [List.pairwise_append]
    refine ⟨?_, ih _, fun a ha b hb => ?_⟩
    · rw [List.pairwise_map]
      exact List.Pairwise.imp (fun h => by omega) List.pairwise_lt_range
    · obtain ⟨i, hi, rfl⟩ := List.mem_map.mp ha
      rw [List.mem_range] at hi
      have := starts_ge (o + v.length) r b hb
      omega
theorem fits_row {c : Nat} {us : List Nat} {r : List Nat} (h : r ∈ rowsU c us) : Fits (timesU c 1 us) r := by
  unfold rowsU at h
  rcases List.mem_cons.mp h with rfl | h
  · refine ⟨by rw [List.length_replicate, timesU_len], fun i x y hx hy => ?_⟩
    have hi : i < c := by
      have := (List.getElem?_eq_some_iff.mp hx).1
      rwa [timesU_len] at this
    rw [timesU_get hi] at hx
    rw [List.getElem?_replicate, if_pos hi] at hy
    have := Option.some.inj hx
    have := Option.some.inj hy
    omega
  · obtain ⟨k, hk, rfl⟩ := List.mem_map.mp h
    refine ⟨by rw [rowAt_len, timesU_len], fun i x y hx hy => ?_⟩
    have hi : i < c := by
      have := (List.getElem?_eq_some_iff.mp hx).1
      rwa [timesU_len] at this
    rw [timesU_get hi] at hx
    rw [rowAt_get k hi] at hy
    have e1 := Option.some.inj hx
    have e2 := Option.some.inj hy
    by_cases z : i = us.getD k 0
    · rw [if_pos z] at e2
      have := List.Sublist.count_le i (List.take_sublist (k + 1) us)
      rw [← z] at e2
      omega
    · rw [if_neg z] at e2
      omega
theorem told_given {c : Nat} {ws : List (List Nat)} (T : ToldWs c ws) {st : List (List Nat)} (s : IsSort (rowsU c ws.flatten) st) : Given (timesU c 1 ws.flatten) (rowsU c ws.flatten) (idxPairs c ws.flatten (startsFrom 0 ws) st) := by
  have tl := told_len T
  have c2 := T.c2
  have c4 := T.c4
  have lt := told_lt T
  have sl : st.length = ws.flatten.length + 1 := by rw [s.perm.length_eq, rowsU_len]
  have klt := startsFrom_lt 0 ws
  rw [Nat.zero_add] at klt
  have kln := startsFrom_len 0 ws
  have mem : ∀ k, k < ws.flatten.length → rowAt c ws.flatten k ∈ st := fun k hk => s.perm.mem_iff.mpr (rowAt_mem hk)
  refine ⟨by rw [timesU_len]; omega, by rw [timesU_len]; omega, fun x hx => ?_, (fun z => by unfold rowsU at z; cases z), rows_nodup lt, fun r hr => fits_row hr, by rw [rowsU_len]; omega, ?_, fun p hp => ?_, ?_⟩
  · unfold timesU at hx
    obtain ⟨y, _, rfl⟩ := List.mem_map.mp hx
    have := T.five y
    omega
  · unfold idxPairs pairsU
    rw [List.map_map]
    unfold List.Nodup
    rw [List.pairwise_map]
    refine List.Pairwise.imp_of_mem ?_ (starts_inc 0 ws)
    intro a b ha hb hab e
    have ka := klt a ha
    have kb := klt b hb
    have e1 : st.idxOf (rowAt c ws.flatten a) = st.idxOf (rowAt c ws.flatten b) := (List.cons.inj e).1
    exact rowAt_inj lt hab (by omega) (idxOf_inj' (mem a (by omega)) (mem b (by omega)) e1)
  · unfold idxPairs pairsU at hp
    rw [List.map_map] at hp
    obtain ⟨k, hk, rfl⟩ := List.mem_map.mp hp
    have kb := klt k hk
    have m1 := mem k (by omega)
    have m2 := mem (k + 1) kb
    have l1 := List.idxOf_lt_length_of_mem m1
    have l2 := List.idxOf_lt_length_of_mem m2
    refine ⟨st.idxOf (rowAt c ws.flatten k), st.idxOf (rowAt c ws.flatten (k + 1)), rfl, by rw [rowsU_len]; omega, by rw [rowsU_len]; omega, fun e => ?_⟩
    exact rowAt_inj lt (Nat.lt_succ_self k) kb (idxOf_inj' m1 m2 e)
  · unfold idxPairs pairsU
    rw [List.length_map, List.length_map]
    omega
theorem told_ok {c : Nat} {ws : List (List Nat)} (T : ToldWs c ws) : ToldOk c ws := ⟨rows_nodup (told_lt T), fun _ s => told_given T s⟩
end K24
set_option Elab.async false
set_option linter.all false
set_option maxRecDepth 100000
set_option maxHeartbeats 4000000
/-! plain maths: the house given again, its bounds -/
namespace K24
open PySem PySem.Spec PyProof.Rows L2
theorem given_perm {ts : List Nat} {cs ps st ch : List (List Nat)} (g : Given ts cs ps) (h1 : st.Perm cs) (h2 : ch.Perm ps) : Given ts st ch := by
  have l1 := h1.length_eq
  have l2 := h2.length_eq
  refine ⟨g.l1, g.l6, g.x36, (fun z => ?_), h1.nodup_iff.mpr g.nd, fun r hr => g.fit r (h1.mem_iff.mp hr), by rw [l1]; exact g.c64, h2.nodup_iff.mpr g.ndp, fun p hp => by rw [l1]; exact g.pair p (h2.mem_iff.mp hp), by rw [l2]; exact g.p64⟩
  rw [z] at l1
  exact g.ne (List.length_eq_zero_iff.mp l1.symm)
theorem told_again {c : Nat} {ws : List (List Nat)} (T : ToldWs c ws) {st ch : List (List Nat)} (s : IsSort (rowsU c ws.flatten) st) (s2 : IsSort (idxPairs c ws.flatten (startsFrom 0 ws) st) ch) :
    Given (timesU c 1 ws.flatten) st ch ∧ ∀ D, IsHouse (timesU c 1 ws.flatten) st ch D → D.standings = st ∧ D.changes = ch := by
  have tl := told_len T
  have sl : st.length = ws.flatten.length + 1 := by rw [s.perm.length_eq, rowsU_len]
  refine ⟨given_perm (told_given T s) s.perm s2.perm, fun D h => ⟨?_, ?_⟩⟩
  · exact sort_uniq (d := c) (fun r hr => row_lt (s.perm.mem_iff.mp hr) (by omega)) h.st ⟨List.Perm.refl _, s.pw⟩
  · exact sort_uniq (d := 2) (fun r hr => idx_bd (c := c) (us := ws.flatten) (ks := startsFrom 0 ws) (st := st) (by omega) r (s2.perm.mem_iff.mp hr)) h.ch ⟨List.Perm.refl _, s2.pw⟩
theorem told_num {c : Nat} {ws : List (List Nat)} (T : ToldWs c ws) {st ch : List (List Nat)} (s : IsSort (rowsU c ws.flatten) st) (s2 : IsSort (idxPairs c ws.flatten (startsFrom 0 ws) st) ch) :
    (∀ r ∈ st, (∀ x ∈ r, x < 100) ∧ r.length ≤ 4) ∧ (∀ r ∈ ch, (∀ x ∈ r, x < 100) ∧ r.length ≤ 2) ∧ st.length ≤ 13 ∧ ch.length ≤ 12 := by
  have tl := told_len T
  have c4 := T.c4
  have sl : st.length = ws.flatten.length + 1 := by rw [s.perm.length_eq, rowsU_len]
  have kln := startsFrom_len 0 ws
  refine ⟨fun r hr => ?_, fun r hr => ?_, by omega, ?_⟩
  · obtain ⟨h1, h2⟩ := row_lt (s.perm.mem_iff.mp hr) (by omega)
    exact ⟨fun x hx => by have := h2 x hx; omega, by omega⟩
  · obtain ⟨h1, h2⟩ := idx_bd (c := c) (us := ws.flatten) (ks := startsFrom 0 ws) (st := st) (by omega) r (s2.perm.mem_iff.mp hr)
    exact ⟨fun x hx => by have := h2 x hx; omega, by omega⟩
  · rw [s2.perm.length_eq]
    unfold idxPairs pairsU
    rw [List.length_map, List.length_map]
    omega
theorem told_gd {c : Nat} {ws : List (List Nat)} (T : ToldWs c ws) {st : List (List Nat)} {D : HD} (s : IsSort (rowsU c ws.flatten) st) (h : IsHouse (timesU c 1 ws.flatten) (rowsU c ws.flatten) (idxPairs c ws.flatten (startsFrom 0 ws) st) D) : Gd D c := by
  have tl := told_len T
  have c2 := T.c2
  have c4 := T.c4
  have dl : D.standings.length = ws.flatten.length + 1 := by rw [h.st.perm.length_eq, rowsU_len]
  have g := told_given T s
  have cl : D.changes.length < 64 := by rw [h.ch.perm.length_eq]; exact g.p64
  refine ⟨by omega, by omega, by rw [h.sizes, timesU_len], (fun z => by rw [z] at dl; cases dl), by omega, fun r hr => row_lt (h.st.perm.mem_iff.mp hr) (by omega), fun x hx => ⟨List.replicate c 0, h.st.perm.mem_iff.mpr (by unfold rowsU; simp), ?_⟩, ?_, fun r hr => ?_⟩
  · rw [List.getD_eq_getElem?_getD, List.getElem?_replicate, if_pos hx]
    rfl
  · rw [h.ah, rowsOf_len, h.st.perm.length_eq]
  · rw [h.ah] at hr
    unfold rowsOf at hr
    obtain ⟨k, hk, rfl⟩ := List.mem_map.mp hr
    refine ⟨by have := goalsOf_len D.changes 0 1 k; omega, fun x hx => ?_⟩
    unfold goalsOf at hx
    obtain ⟨p, hp, rfl⟩ := List.mem_map.mp hx
    obtain ⟨a, b, rfl, ha, hb, _⟩ := g.pair p (h.ch.perm.mem_iff.mp (List.mem_filter.mp hp).1)
    rw [h.st.perm.length_eq]
    exact hb
end K24
set_option Elab.async false
set_option linter.all false
set_option maxRecDepth 100000
set_option maxHeartbeats 4000000
/-! plain maths: places that are alive -/
namespace K24
open PySem PySem.Spec PyProof.Rows L2
def Alive : Nat → List (List Nat) → List Nat → Nat → Prop
  | o, w :: r, p :: s, g => (o + p ≤ g ∧ g < o + w.length) ∨ Alive (o + w.length) r s g
  | _, _, _, _ => False
theorem alive_ge : ∀ {ws : List (List Nat)} {s : List Nat} {o g : Nat}, Alive o ws s g → o ≤ g
  | w :: r, p :: s, o, g, h => by
    rcases h with h | h
    · omega
    · have := alive_ge h
      omega
theorem alive_lt : ∀ {ws : List (List Nat)} {s : List Nat} {o g : Nat}, Alive o ws s g → g < o + ws.flatten.length
  | w :: r, p :: s, o, g, h => by
    rw [List.flatten_cons, List.length_append]
    rcases h with h | h
    · omega
    · have := alive_lt h
      omega
/-- the next place of a word is alive too -/
theorem alive_next : ∀ {ws : List (List Nat)} {s : List Nat} {o k : Nat}, s.length = ws.length → k ∈ startsFrom o ws → Alive o ws s k → Alive o ws s (k + 1)
  | w :: r, p :: s, o, k, hl, hk, h => by
    simp only [startsFrom] at hk
    rcases List.mem_append.mp hk with q | q
    · obtain ⟨j, hj, rfl⟩ := List.mem_map.mp q
      rw [List.mem_range] at hj
      rcases h with h | h
      · exact .inl ⟨by omega, by omega⟩
      · have := alive_ge h
        omega
    · have hge := starts_ge _ _ k q
      rcases h with h | h
      · omega
      · exact .inr (alive_next (by simpa using hl) q h)
theorem flat_head {w : List Nat} {r : List (List Nat)} {o g : Nat} (h1 : o ≤ g) (h2 : g < o + w.length) : (w :: r).flatten[g - o]? = w[g - o]? := by
  rw [List.flatten_cons, List.getElem?_append_left (by omega)]
theorem flat_tail {w : List Nat} {r : List (List Nat)} {o g : Nat} (h : o + w.length ≤ g) : (w :: r).flatten[g - o]? = r.flatten[g - (o + w.length)]? := by
  rw [List.flatten_cons, List.getElem?_append_right (by omega)]
  congr 1
  omega
theorem alive_mv : ∀ {ws : List (List Nat)} {s : List Nat} {o g c : Nat}, Alive o ws s g → ws.flatten[g - o]? ≠ some c → Alive o ws (mv ws s c) g
  | w :: r, p :: s, o, g, c, h, n => by
    rw [mv_cons]
    rcases h with h | h
    · refine .inl ⟨?_, h.2⟩
      rw [flat_head (by omega) h.2] at n
      unfold mv1
      split
      · rename_i e
        have : g ≠ o + p := fun z => by
          subst z
          rw [Nat.add_sub_cancel_left] at n
          exact n e
        omega
      · exact h.1
    · have hg := alive_ge h
      rw [flat_tail hg] at n
      exact .inr (alive_mv h n)
theorem alive_back : ∀ {ws : List (List Nat)} {s : List Nat} {o g c : Nat}, (∀ w ∈ ws, ∀ (i x y : Nat), w[i]? = some x → w[i + 1]? = some y → x ≠ y) → s.length = ws.length → Alive o ws (mv ws s c) g →
    (ws.flatten[g - o]? ≠ some c ∧ Alive o ws s g) ∨ ∃ k, k + 1 = g ∧ k ∈ startsFrom o ws ∧ Alive o ws (mv ws s c) k
  | w :: r, p :: s, o, g, c, ha, hl, h => by
    rw [mv_cons] at h ⊢
    rcases h with h | h
    · have hp : p ≤ mv1 w p c := by unfold mv1; split <;> omega
      rw [flat_head (by omega) h.2]
      by_cases e : w[g - o]? = some c
      · refine .inr ⟨g - 1, ?_⟩
        have hgt : o + mv1 w p c < g := by
          rcases Nat.lt_or_ge (o + mv1 w p c) g with z | z
          · exact z
          · exfalso
            have z2 : g - o = mv1 w p c := by omega
            rw [z2] at e
            unfold mv1 at e
            split at e
            · rename_i e2
              exact ha w (by simp) p c c e2 e rfl
            · rename_i e2
              exact e2 e
        refine ⟨by omega, ?_, .inl ⟨by omega, by omega⟩⟩
        simp only [startsFrom]
        refine List.mem_append_left _ (List.mem_map.mpr ⟨g - 1 - o, List.mem_range.mpr (by omega), by omega⟩)
      · exact .inl ⟨e, .inl ⟨by omega, h.2⟩⟩
    · have hg := alive_ge h
      rw [flat_tail hg]
      rcases alive_back (fun w' hw' => ha w' (List.mem_cons_of_mem _ hw')) (by simpa using hl) h with q | ⟨k, hk, hs, hq⟩
      · exact .inl ⟨q.1, .inr q.2⟩
      · refine .inr ⟨k, hk, ?_, .inr hq⟩
        simp only [startsFrom]
        exact List.mem_append_right _ hs
theorem alive_nil : ∀ {ws : List (List Nat)} {s : List Nat} {o : Nat}, Bnd ws s → (∀ g, ¬ Alive o ws s g) → s = whole ws
  | [], [], _, _, _ => rfl
  | w :: r, p :: s, o, hb, h => by
    have h1 : p = w.length := by
      rcases Nat.lt_or_ge p w.length with z | z
      · exact absurd (.inl ⟨Nat.le_refl _, by omega⟩) (h (o + p))
      · have := hb.1
        omega
    have h2 := alive_nil (o := o + w.length) hb.2 fun g q => h g (.inr q)
    show p :: s = w.length :: whole r
    rw [h1, h2]
theorem alive_whole : ∀ (ws : List (List Nat)) (o g : Nat), ¬ Alive o ws (whole ws) g
  | [], _, _, h => h
  | w :: r, o, g, h => by
    rcases h with h | h
    · omega
    · exact alive_whole r _ g h
theorem alive_st0 : ∀ {ws : List (List Nat)} {o g : Nat}, o ≤ g → g < o + ws.flatten.length → Alive o ws (st0 ws) g
  | [], o, g, h1, h2 => by simp at h2; omega
  | w :: r, o, g, h1, h2 => by
    rw [List.flatten_cons, List.length_append] at h2
    rcases Nat.lt_or_ge g (o + w.length) with z | z
    · exact .inl ⟨by omega, z⟩
    · exact .inr (alive_st0 z (by omega))
end K24
set_option Elab.async false
set_option linter.all false
set_option maxRecDepth 100000
set_option maxHeartbeats 4000000
/-! plain maths: the numbers of the standings -/
namespace K24
open PySem PySem.Spec PyProof.Rows L2
theorem code_zero (c : Nat) : TS.code 64 (toI (List.replicate c 0)) = 0 := by
  induction c with
  | zero => rfl
  | succ c ih =>
    show (0 : Int) * 64 ^ _ + TS.code 64 (toI (List.replicate c 0)) = 0
    rw [ih, Int.zero_mul]
    rfl
theorem zero_first {c : Nat} {ws : List (List Nat)} (T : ToldWs c ws) {st : List (List Nat)} (s : IsSort (rowsU c ws.flatten) st) : st[0]? = some (List.replicate c 0) := by
  have tl := told_len T
  have hz : List.replicate c 0 ∈ st := s.perm.mem_iff.mpr (by unfold rowsU; simp)
  cases e : st with
  | nil => rw [e] at hz; cases hz
  | cons x r =>
    rw [e] at hz
    have hx : x ∈ rowsU c ws.flatten := s.perm.mem_iff.mp (by rw [e]; simp)
    have hb := row_lt hx (by omega)
    rcases List.mem_cons.mp hz with z | z
    · rw [z]
      rfl
    · have pw := s.pw
      rw [e, List.pairwise_cons] at pw
      have h1 : TS.code 64 (toI x) ≤ TS.code 64 (toI (List.replicate c 0)) := pw.1 _ z
      have h2 := (TS.code_bd (toI x) (bd_toI hb.2)).1
      rw [code_zero] at h1
      have h3 : TS.code 64 (toI x) = TS.code 64 (toI (List.replicate c 0)) := by rw [code_zero]; omega
      have := code_inj (a := x) (b := List.replicate c 0) (by rw [hb.1]; simp) hb.2 (fun y hy => by rw [(List.mem_replicate.mp hy).2]; decide) h3
      rw [this]
      rfl
theorem os_mem {ws : List (List Nat)} {x : Nat} : x ∈ osW ws ↔ 1 ≤ x ∧ x ≤ ws.flatten.length := by
  unfold osW othersOf qsW
  rw [List.mem_filter, List.mem_range, List.length_cons, List.length_replicate]
  constructor
  · rintro ⟨h1, h2⟩
    refine ⟨?_, by omega⟩
    cases x with
    | zero => cases h2
    | succ x => omega
  · rintro ⟨h1, h2⟩
    refine ⟨by omega, ?_⟩
    obtain ⟨y, rfl⟩ : ∃ y, x = y + 1 := ⟨x - 1, by omega⟩
    rw [List.getD_eq_getElem?_getD, List.getElem?_cons_succ, List.getElem?_replicate, if_pos (by omega)]
    rfl
end K24
set_option Elab.async false
set_option linter.all false
set_option maxRecDepth 100000
set_option maxHeartbeats 4000000
/-! plain maths: places and numbers -/
namespace K24
open PySem PySem.Spec PyProof.Rows L2
def ixW (c : Nat) (ws : List (List Nat)) (st : List (List Nat)) (g : Nat) : Nat := st.idxOf (rowAt c ws.flatten g)
section
variable {c : Nat} {ws : List (List Nat)} {st : List (List Nat)}
theorem st_nodup (T : ToldWs c ws) (s : IsSort (rowsU c ws.flatten) st) : st.Nodup := s.perm.nodup_iff.mpr (rows_nodup (told_lt T))
theorem ix_get (T : ToldWs c ws) (s : IsSort (rowsU c ws.flatten) st) {g : Nat} (h : g < ws.flatten.length) : st[ixW c ws st g]? = some (rowAt c ws.flatten g) := by
  have m : rowAt c ws.flatten g ∈ st := s.perm.mem_iff.mpr (rowAt_mem h)
  have := List.idxOf_lt_length_of_mem m
  unfold ixW
  rw [List.getElem?_eq_getElem this, List.getElem_idxOf]
theorem ix_bd (T : ToldWs c ws) (s : IsSort (rowsU c ws.flatten) st) {g : Nat} (h : g < ws.flatten.length) : 1 ≤ ixW c ws st g ∧ ixW c ws st g ≤ ws.flatten.length := by
  have e := ix_get T s h
  have l := (List.getElem?_eq_some_iff.mp e).1
  have sl : st.length = ws.flatten.length + 1 := by rw [s.perm.length_eq, rowsU_len]
  refine ⟨?_, by omega⟩
  rcases Nat.eq_zero_or_pos (ixW c ws st g) with z | z
  · rw [z, zero_first T s] at e
    exact absurd (Option.some.inj e).symm (rowAt_ne0 (told_lt T) h)
  · exact z
theorem ix_onto (T : ToldWs c ws) (s : IsSort (rowsU c ws.flatten) st) {x : Nat} (h1 : 1 ≤ x) (h2 : x ≤ ws.flatten.length) : ∃ g, g < ws.flatten.length ∧ ixW c ws st g = x := by
  have sl : st.length = ws.flatten.length + 1 := by rw [s.perm.length_eq, rowsU_len]
  have nd := st_nodup T s
  have hx : x < st.length := by omega
  have m : st[x] ∈ rowsU c ws.flatten := s.perm.mem_iff.mp (List.getElem_mem hx)
  unfold rowsU at m
  rcases List.mem_cons.mp m with e | m
  · have z := zero_first T s
    have h0 : 0 < st.length := by omega
    rw [List.getElem?_eq_getElem h0] at z
    have z2 := Option.some.inj z
    have := (List.getElem_inj (h₀ := h0) (h₁ := hx) nd).mp (z2.trans e.symm)
    omega
  · obtain ⟨g, hg, e⟩ := List.mem_map.mp m
    refine ⟨g, List.mem_range.mp hg, ?_⟩
    unfold ixW
    rw [e, List.Nodup.idxOf_getElem nd]
theorem ix_inj (T : ToldWs c ws) (s : IsSort (rowsU c ws.flatten) st) {g g' : Nat} (h : g < ws.flatten.length) (h' : g' < ws.flatten.length) (e : ixW c ws st g = ixW c ws st g') : g = g' := by
  have e1 := ix_get T s h
  rw [e, ix_get T s h'] at e1
  have e2 := Option.some.inj e1
  rcases Nat.lt_trichotomy g g' with z | z | z
  · exact absurd e2.symm (rowAt_inj (told_lt T) z h')
  · exact z
  · exact absurd e2 (rowAt_inj (told_lt T) z h)
end
end K24
set_option Elab.async false
set_option linter.all false
set_option maxRecDepth 100000
set_option maxHeartbeats 4000000
/-! plain maths: the changes, what is shown, by places -/
namespace K24
open PySem PySem.Spec PyProof.Rows L2
section
variable {c : Nat} {ws : List (List Nat)} {st : List (List Nat)} {D : HD}
abbrev Hous (c : Nat) (ws : List (List Nat)) (st : List (List Nat)) (D : HD) : Prop := IsHouse (timesU c 1 ws.flatten) (rowsU c ws.flatten) (idxPairs c ws.flatten (startsFrom 0 ws) st) D
theorem adj_iff (T : ToldWs c ws) (s : IsSort (rowsU c ws.flatten) st) (h : Hous c ws st D) {x y : Nat} (hx : x < ws.flatten.length + 1) : y ∈ D.ahead.getD x [] ↔ ∃ k ∈ startsFrom 0 ws, ixW c ws st k = x ∧ ixW c ws st (k + 1) = y := by
  have e : D.ahead.getD x [] = goalsOf D.changes 0 1 x := by
    rw [h.ah, List.getD_eq_getElem?_getD, rowsOf_get (by rw [rowsU_len]; exact hx)]
    rfl
  rw [e]
  unfold goalsOf
  rw [List.mem_map]
  constructor
  · rintro ⟨p, hp, rfl⟩
    obtain ⟨hp1, hp2⟩ := List.mem_filter.mp hp
    have hm := h.ch.perm.mem_iff.mp hp1
    unfold idxPairs pairsU at hm
    rw [List.map_map] at hm
    obtain ⟨k, hk, rfl⟩ := List.mem_map.mp hm
    exact ⟨k, hk, beq_iff_eq.mp hp2, rfl⟩
  · rintro ⟨k, hk, rfl, rfl⟩
    refine ⟨[ixW c ws st k, ixW c ws st (k + 1)], List.mem_filter.mpr ⟨h.ch.perm.mem_iff.mpr ?_, beq_self_eq_true _⟩, rfl⟩
    unfold idxPairs pairsU
    rw [List.map_map]
    exact List.mem_map.mpr ⟨k, hk, rfl⟩
theorem shown_iff (T : ToldWs c ws) (s : IsSort (rowsU c ws.flatten) st) (h : Hous c ws st D) {g x : Nat} (hg : g < ws.flatten.length) (hx : x < c) : ixW c ws st g ∈ shownAt D (osW ws) x ↔ ws.flatten[g]? ≠ some x := by
  have es : D.standings = st := rows_sort_uniq T h.st s
  have hb := ix_bd T s hg
  have er : (D.standings.getD (ixW c ws st g) []) = rowAt c ws.flatten g := by
    rw [es, List.getD_eq_getElem?_getD, ix_get T s hg]
    rfl
  unfold shownAt
  rw [List.mem_filter, os_mem, er, List.getD_eq_getElem?_getD, rowAt_get g hx]
  show _ ∧ ((if x = ws.flatten.getD g 0 then (ws.flatten.take (g + 1)).count (ws.flatten.getD g 0) else 0) == 0) = true ↔ _
  have gd : ws.flatten.getD g 0 = ws.flatten[g] := by rw [List.getD_eq_getElem?_getD, List.getElem?_eq_getElem hg]; rfl
  have p := cnt_pos hg
  rw [List.getElem?_eq_getElem hg]
  by_cases z : x = ws.flatten.getD g 0
  · rw [if_pos z]
    constructor
    · rintro ⟨_, h2⟩
      have h3 := beq_iff_eq.mp h2
      omega
    · intro h2
      exact absurd (congrArg some (by rw [z, gd])) h2
  · rw [if_neg z]
    constructor
    · intro _ e2
      exact z (by rw [gd]; exact (Option.some.inj e2).symm)
    · intro _
      exact ⟨hb, rfl⟩
end
end K24
set_option Elab.async false
set_option linter.all false
set_option maxRecDepth 100000
set_option maxHeartbeats 4000000
/-! plain maths: the lots are the places' states -/
namespace K24
open PySem PySem.Spec PyProof.Rows L2
open Classical in
noncomputable def lotW (c : Nat) (ws : List (List Nat)) (st : List (List Nat)) (s : List Nat) : List Nat := (List.range (ws.flatten.length + 1)).filter fun x => decide (∃ g, Alive 0 ws s g ∧ ixW c ws st g = x)
section
variable {c : Nat} {ws : List (List Nat)} {st : List (List Nat)} {D : HD}
open Classical in
theorem lot_mem (T : ToldWs c ws) (s : IsSort (rowsU c ws.flatten) st) {q : List Nat} {x : Nat} : x ∈ lotW c ws st q ↔ ∃ g, Alive 0 ws q g ∧ ixW c ws st g = x := by
  unfold lotW
  rw [List.mem_filter, List.mem_range]
  constructor
  · rintro ⟨_, h⟩
    exact of_decide_eq_true h
  · rintro ⟨g, h1, h2⟩
    have hg := alive_lt h1
    rw [Nat.zero_add] at hg
    have := ix_bd T s hg
    exact ⟨by omega, decide_eq_true ⟨g, h1, h2⟩⟩
open Classical in
theorem lot_step (T : ToldWs c ws) (s : IsSort (rowsU c ws.flatten) st) (h : Hous c ws st D) {q : List Nat} (hb : Bnd ws q) {x : Nat} (hx : x < c) : lotW c ws st (mv ws q x) = stepL D (osW ws) (lotW c ws st q) x := by
  have hl := hb.len
  have hl2 := hb.mv (x := x) |>.len
  have dl : D.standings.length = ws.flatten.length + 1 := by rw [h.st.perm.length_eq, rowsU_len]
  have adj : ∀ w ∈ ws, ∀ (i a b : Nat), w[i]? = some a → w[i + 1]? = some b → a ≠ b := fun w hw => (T.word w hw).adj
  unfold stepL leftF ledF
  rw [dl]
  unfold lotW
  refine List.filter_congr fun y hy => ?_
  refine decide_eq_decide.mpr ?_
  constructor
  · rintro ⟨g, hg, rfl⟩
    induction g using Nat.strongRecOn with
    | _ g ih =>
      have gl := alive_lt hg
      rw [Nat.zero_add] at gl
      rcases alive_back adj hl hg with ⟨h1, h2⟩ | ⟨k, hk, hs, hq⟩
      · rw [Nat.sub_zero] at h1
        refine .start (List.mem_filter.mpr ⟨(lot_mem T s).mpr ⟨g, h2, rfl⟩, decide_eq_true ?_⟩)
        exact (shown_iff T s h gl hx).mpr h1
      · subst hk
        have r := ih k (by omega) hq (List.mem_range.mpr (by have := ix_bd T s (g := k) (by omega); omega))
        have kb := ix_bd T s (g := k) (by omega)
        refine .step r ((adj_iff T s h (by omega)).mpr ⟨k, hs, rfl, rfl⟩) (os_mem.mpr (ix_bd T s gl))
  · intro r
    clear hy
    induction r with
    | start hm =>
      obtain ⟨hm1, hm2⟩ := List.mem_filter.mp hm
      obtain ⟨g, h1, rfl⟩ := (lot_mem T s).mp hm1
      have gl := alive_lt h1
      rw [Nat.zero_add] at gl
      have h3 := (shown_iff T s h gl hx).mp (of_decide_eq_true hm2)
      exact ⟨g, alive_mv h1 (by rw [Nat.sub_zero]; exact h3), rfl⟩
    | step r hy ho ih =>
      obtain ⟨g, hg, rfl⟩ := ih
      have gl := alive_lt hg
      rw [Nat.zero_add] at gl
      have gb := ix_bd T s gl
      obtain ⟨k, hk, e1, rfl⟩ := (adj_iff T s h (by omega)).mp hy
      have kl := startsFrom_lt 0 ws k hk
      rw [Nat.zero_add] at kl
      have := ix_inj T s (by omega) gl e1
      subst this
      exact ⟨k + 1, alive_next hl2 hk hg, rfl⟩
end
end K24
set_option Elab.async false
set_option linter.all false
set_option maxRecDepth 100000
set_option maxHeartbeats 4000000
/-! plain maths: all together -/
namespace K24
open PySem PySem.Spec PyProof.Rows L2
section
variable {c : Nat} {ws : List (List Nat)} {st : List (List Nat)} {D : HD}
theorem lot_nil (T : ToldWs c ws) (s : IsSort (rowsU c ws.flatten) st) {q : List Nat} (hb : Bnd ws q) : lotW c ws st q = [] ↔ q = whole ws := by
  constructor
  · intro e
    refine alive_nil (o := 0) hb fun g hg => ?_
    have : ixW c ws st g ∈ lotW c ws st q := (lot_mem T s).mpr ⟨g, hg, rfl⟩
    rw [e] at this
    cases this
  · intro e
    refine List.eq_nil_iff_forall_not_mem.mpr fun x hx => ?_
    obtain ⟨g, hg, _⟩ := (lot_mem T s).mp hx
    rw [e] at hg
    exact alive_whole ws 0 g hg
open Classical in
theorem lot_st0 (T : ToldWs c ws) (s : IsSort (rowsU c ws.flatten) st) : lotW c ws st (st0 ws) = osW ws := by
  unfold lotW osW othersOf
  rw [show (qsW ws).length = ws.flatten.length + 1 by unfold qsW; rw [List.length_cons, List.length_replicate]]
  refine List.filter_congr fun x hx => ?_
  rw [Bool.eq_iff_iff, decide_eq_true_iff]
  have e : ((qsW ws).getD x 0 != 0) = true ↔ x ∈ osW ws := by
    unfold osW othersOf
    rw [List.mem_filter, List.mem_range]
    constructor
    · intro h
      refine ⟨?_, h⟩
      have := List.mem_range.mp hx
      unfold qsW
      rw [List.length_cons, List.length_replicate]
      exact this
    · exact fun h => h.2
  rw [e, os_mem]
  constructor
  · rintro ⟨g, hg, rfl⟩
    have gl := alive_lt hg
    rw [Nat.zero_add] at gl
    exact ix_bd T s gl
  · rintro ⟨h1, h2⟩
    obtain ⟨g, hg, e⟩ := ix_onto T s h1 h2
    exact ⟨g, alive_st0 (Nat.zero_le _) (by omega), e⟩
theorem iso (T : ToldWs c ws) (s : IsSort (rowsU c ws.flatten) st) (h : Hous c ws st D) : Mt.Iso (mv ws) (stepL D (osW ws)) c (finW ws) emp (lotW c ws st) (Bnd ws) where
  step := fun q x hb hx => lot_step T s h hb hx
  stay := fun q x hb _ => hb.mv
  fin := fun q hb => by
    unfold finW emp
    rw [Bool.eq_iff_iff, decide_eq_true_iff, List.isEmpty_iff]
    exact (lot_nil T s hb).symm
theorem fold_le {w : List Nat} : ∀ (u : List Nat) {p : Nat}, p ≤ w.length → u.foldl (mv1 w) p ≤ w.length
  | [], _, h => h
  | x :: u, _, h => fold_le u (mv1_le h)
theorem fold_mono {w : List Nat} : ∀ (u : List Nat) (p : Nat), p ≤ u.foldl (mv1 w) p
  | [], _ => Nat.le_refl _
  | x :: u, p => Nat.le_trans (by unfold mv1; split <;> omega) (fold_mono u (mv1 w p x))
theorem fold_drop {w : List Nat} : ∀ (n k p : Nat), w.length - k = n → k ≤ p → p ≤ w.length → w.length ≤ (w.drop k).foldl (mv1 w) p
  | 0, k, p, e, h1, h2 => Nat.le_trans (by omega) (fold_mono _ p)
  | n + 1, k, p, e, h1, h2 => by
    have hk : k < w.length := by omega
    rw [List.drop_eq_getElem_cons hk, List.foldl_cons]
    refine fold_drop n (k + 1) _ (by omega) ?_ (mv1_le h2)
    unfold mv1
    split
    · omega
    · rename_i ne
      rcases Nat.lt_or_ge k p with z | z
      · exact z
      · exfalso
        have : p = k := by omega
        subst this
        exact ne (List.getElem?_eq_getElem hk)
theorem fold_flat {w : List Nat} : ∀ {ws : List (List Nat)} {p : Nat}, w ∈ ws → p ≤ w.length → ws.flatten.foldl (mv1 w) p = w.length
  | v :: r, p, h, hp => by
    rw [List.flatten_cons, List.foldl_append]
    have h1 := fold_le v hp
    rcases List.mem_cons.mp h with e | h
    · subst e
      have h2 := fold_drop (w := w) w.length 0 p rfl (Nat.zero_le _) hp
      rw [List.drop_zero] at h2
      exact Nat.le_antisymm (fold_le _ h1) (Nat.le_trans h2 (fold_mono _ _))
    · exact fold_flat h h1
theorem allSt_bnd : ∀ {ws : List (List Nat)} {q : List Nat}, q ∈ allSt ws → Bnd ws q
  | [], q, h => by
    simp [allSt] at h
    subst h
    trivial
  | w :: r, q, h => by
    simp only [allSt, List.mem_flatMap] at h
    obtain ⟨x, hx, hq⟩ := h
    obtain ⟨q', hq', rfl⟩ := List.mem_map.mp hq
    exact ⟨by have := List.mem_range.mp hx; omega, allSt_bnd hq'⟩
theorem ws_math (c : Nat) (ws : List (List Nat)) (T : ToldWs c ws) : WsMath c ws := by
  have tl := told_len T
  have fp := flat_pos T
  have hit : ∀ st D, IsSort (rowsU c ws.flatten) st → Hous c ws st D → ∀ u, Mt.Ok c u → (Mt.run (stepL D (osW ws)) (osW ws) u).isEmpty = decide (Mt.run (mv ws) (st0 ws) u = whole ws) := fun st D s h u hu => by
    have I := iso T s h
    obtain ⟨h1, h2⟩ := I.run u (st0 ws) (bnd_st0 ws) hu
    rw [lot_st0 T s] at h1
    rw [h1]
    exact (I.fin _ h2).symm
  refine ⟨told_ok T, fun _ _ a b => rows_sort_uniq T a b, fun _ _ _ s a b => idx_sort_uniq T s a b, fun _ _ s s2 => told_again T s s2, fun _ _ s s2 => told_num T s s2, fun _ _ s h => told_gd T s h, fun st D s h => ?_, ?_, fun st D s h => ?_, fun st D s h x b => ?_, fun st D s h m => ?_, hit⟩
  · refine ⟨(allSt ws).map (lotW c ws st), List.mem_map.mpr ⟨st0 ws, mem_allSt (bnd_st0 ws), lot_st0 T s⟩, fun l hl x hx => ?_, ?_, fun l hl => ?_⟩
    · obtain ⟨q, hq, rfl⟩ := List.mem_map.mp hl
      exact List.mem_map.mpr ⟨mv ws q x, mem_allSt (allSt_bnd hq).mv, lot_step T s h (allSt_bnd hq) hx⟩
    · rw [List.length_map]
      refine Nat.le_trans (allSt_len fun w hw => (T.word w hw).len) ?_
      exact Nat.le_trans (Nat.pow_le_pow_right (n := 5) (by decide) T.len) (by decide)
    · obtain ⟨q, hq, rfl⟩ := List.mem_map.mp hl
      have dl : D.standings.length = ws.flatten.length + 1 := by rw [h.st.perm.length_eq, rowsU_len]
      refine ⟨List.Pairwise.filter _ List.nodup_range, fun x hx => ?_⟩
      have := List.mem_range.mp (List.mem_filter.mp hx).1
      omega
  · intro e
    have : 1 ∈ osW ws := os_mem.mpr ⟨Nat.le_refl _, fp⟩
    rw [e] at this
    cases this
  · refine ⟨ws.flatten, told_lt T, tl, ?_⟩
    have hw : Mt.run (mv ws) (st0 ws) ws.flatten = whole ws := by
      have hb := bnd_run ws.flatten (bnd_st0 ws)
      apply List.ext_getElem?
      intro i
      by_cases hi : i < ws.length
      · rw [run_get ws.flatten (w := ws[i]) (p := 0) (List.getElem?_eq_getElem hi) (by unfold st0; rw [List.getElem?_replicate, if_pos hi]), fold_flat (List.getElem_mem hi) (Nat.zero_le _)]
        unfold whole
        rw [List.getElem?_map, List.getElem?_eq_getElem hi]
        rfl
      · rw [List.getElem?_eq_none (by rw [hb.len]; omega), List.getElem?_eq_none (by unfold whole; rw [List.length_map]; omega)]
    have := hit st D s h ws.flatten (told_lt T)
    rw [hw, decide_eq_true rfl] at this
    exact List.isEmpty_iff.mp this
  · have I := iso T s h
    have b' : Mt.Best (stepL D (osW ws)) c (fun l => emp l = true) (lotW c ws st (st0 ws)) x := by
      rw [lot_st0 T s]
      have e : (fun l : List Nat => emp l = true) = fun l => l = [] := by funext l; unfold emp; exact propext List.isEmpty_iff
      rw [e]
      exact b
    have b2 := (I.best (bnd_st0 ws)).mp b'
    have e2 : (fun q : List Nat => finW ws q = true) = fun q => q = whole ws := by funext q; unfold finW; exact propext decide_eq_true_iff
    rw [e2] at b2
    exact b2
  · have I := iso T s h
    have := I.cnt m (st0 ws) (bnd_st0 ws)
    rw [lot_st0 T s] at this
    exact this
end
end K24
theorem PySem.Challenge.cw_onceitwas_k24_whole_houses_made_for_told_holds : PySem.Challenge.rw_onceitwas_k24_whole_houses_made_for_told.Holds :=
  K24.holds_of K24.ws_math
