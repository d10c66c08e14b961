import PyProof.Rows.All
import Wide.All
import OpenK.AllK
import Wide.FinOn
import HandS.ForMost
import HandS.ForExc
import HandS.Defaults
import HandS.Walk
import HandS.Zip
import KE.GoesEnum
import KE.GoesDict
import HandS.DictComp
import KE.KDictWalk
import KE.KDictKeyed
import KE.KDictPairs
import KE.KDictItemsList
import HandS.TryMany
import HandS.ExcField
import HandS.Lambda
import HandS.Style
import HandS.TupAny
import KE.KExcSuper
import HandS.ExcInit
import HandS.Sort
import KE.KSortKey
import HandS.SortKw
import HandS.Slots
import PyProof.ReprRoads
import HandS.IsInst
import HandS.Small
import HandS.NoneIn
import PySem.Challenge.RW_feasted_k70_whole_begun_so_far
import HandS.Deep
import HandS.TupLen
import HandS.Finally
import KE.KExcInit
import HandS.Head0
import HandS.Head1
import HandS.Head2
import HandS.HeadHook1
import HandS.HeadHook2
import HandS.HeadHook3
import HandS.HeadHook4
import HandS.EndBits
set_option Elab.async false
set_option linter.all false
set_option maxRecDepth 100000
set_option maxHeartbeats 0
/-! K70A: heaps that grow, calls by one word, walks over a list or a tuple. -/
namespace K70
open PySem PySem.Spec PyProof.Rows L2

/-! ### heaps -/
/-- all that stood stands, but what stands in L -/
def Ext (L : List Addr) (H H' : Hp) : Prop := ∀ b o, b ∉ L → H b = some o → H' b = some o
theorem Ext.rfl {L : List Addr} {H : Hp} : Ext L H H := fun _ _ _ h => h
theorem Ext.trans {L : List Addr} {H H1 H2 : Hp} (a : Ext L H H1) (b : Ext L H1 H2) : Ext L H H2 := fun c o n h => b c o n (a c o n h)
theorem Ext.at0 {H H' : Hp} (x : Ext [] H H') {b : Addr} {o : HO} (h : H b = some o) : H' b = some o := x b o (by simp) h
theorem Ext.at1 {a : Addr} {H H' : Hp} (x : Ext [a] H H') {b : Addr} {o : HO} (n : b ≠ a) (h : H b = some o) : H' b = some o := x b o (by simpa using n) h
theorem Ext.of0 {L : List Addr} {H H' : Hp} (x : Ext [] H H') : Ext L H H' := fun b o _ h => x b o (by simp) h
theorem Ext.wide {L M : List Addr} {H H' : Hp} (x : Ext L H H') (h : ∀ b, b ∈ L → b ∈ M) : Ext M H H' := fun b o n e => x b o (fun z => n (h b z)) e
theorem Ext.same {H H' : Hp} (x : Ext [] H H') : Same H H' := fun b o h => x b o (by simp) h
theorem ext_of {L : List Addr} {H H' : Hp} (x : Same H H') : Ext L H H' := fun b o _ h => x b o h
/-- a new object -/
theorem Ext.new {L : List Addr} {H H' : Hp} {p : Addr} {o : HO} (x : Ext L H H') (h : H' p = none) : Ext L H (upd H' p o) := fun b u n e => by
  rw [upd_ne (ne_of_none (x b u n e) h)]
  exact x b u n e
theorem ext_new {L : List Addr} {H : Hp} {p : Addr} {o : HO} (h : H p = none) : Ext L H (upd H p o) := Ext.rfl.new h
/-- an object that was not there at first is written -/
theorem Ext.put {L : List Addr} {H H' : Hp} {p : Addr} {o : HO} (x : Ext L H H') (h : H p = none) : Ext L H (upd H' p o) := fun b u n e => by
  rw [upd_ne (ne_of_none e h)]
  exact x b u n e
/-- an object of L is written -/
theorem Ext.putL {L : List Addr} {H H' : Hp} {p : Addr} {o : HO} (x : Ext L H H') (h : p ∈ L) : Ext L H (upd H' p o) := fun b u n e => by
  rw [upd_ne (fun z => n (by rw [z]; exact h))]
  exact x b u n e
theorem Ext.free0 {H H' : Hp} (x : Ext [] H H') {p : Addr} (h : H' p = none) : H p = none := by
  cases q : H p with
  | none => rfl
  | some o => rw [x.at0 q] at h; cases h
theorem Ext.free1 {a : Addr} {H H' : Hp} (x : Ext [a] H H') {p : Addr} (n : p ≠ a) (h : H' p = none) : H p = none := by
  cases q : H p with
  | none => rfl
  | some o => rw [x.at1 n q] at h; cases h
theorem Ext.sqT {K : PySem.W.Frag} {H H' : Hp} {a : Addr} {xs : List V} (e : Ext [] H H') (h : SqT K H a xs) : SqT K H' a xs := by
  rcases h with (h | ⟨o, h⟩) | h
  · exact .inl (.inl (e.at0 h))
  · exact .inl (.inr ⟨o, e.at0 h⟩)
  · exact .inr h
theorem Ext.sqL {K : PySem.W.Frag} {H H' : Hp} {a : Addr} {xs : List V} (e : Ext [] H H') (h : SqL K H a xs) : SqL K H' a xs := e.same.seq h
theorem sl {n : Nat} (h : n ≤ 100000) : n < sizeLine := Nat.lt_of_le_of_lt h (by decide)
theorem sl' {n : Nat} (h : n ≤ 100000) : n ≤ sizeLine := Nat.le_of_lt (sl h)

/-! ### a def of the top, called -/
/-- the def x of the top keeps the promise sp at level k -/
structure Cl (P : Program) (w : World) (K : PySem.W.Frag) (mg : Str → Option Value) (base : Heap) (CX : CXT) (k : Nat) (x : Str) (sp : Sp) : Prop where
  ex : ∃ (f : Addr) (fd : FuncData) (ps : List Str), FnOk P w K mg base CX k f fd ps sp ∧ mg x = some (.ref f) ∧ PySem.W.keepIn K (.ref f) = true ∧ Binds K fd ps []
theorem Cl.imp {P : Program} {w : World} {K : PySem.W.Frag} {mg : Str → Option Value} {base : Heap} {CX : CXT} {k : Nat} {x : Str} {sp sp' : Sp} (c : Cl P w K mg base CX k x sp) (h : ∀ vs H Q E, sp' vs H Q E → sp vs H Q E) : Cl P w K mg base CX k x sp' := by
  obtain ⟨f, fd, ps, F, a, b, d⟩ := c.ex
  exact ⟨f, fd, ps, F.imp h, a, b, d⟩
/-- where the def x = the i-th statement of the text stands -/
structure Df (K : PySem.W.Frag) (mg : Str → Option Value) (x : Str) (st : Stmt) : Prop where
  ex : ∃ (f : Addr) (fd : FuncData), FunD K x x (defArgs st) (defBody st) (defScope st) [] [] f fd ∧ mg x = some (.ref f)
section
variable {P : Program} {w : World} {K : PySem.W.Frag} {mg : Str → Option Value} {base : Heap} {x : Str} {st : Stmt} {N ps : List Str} {k : Nat} {sp : Sp}
abbrev BindsBy (x : Str) (st : Stmt) (ps : List Str) : Prop := ∀ (kV doc pm : Value) (an : Option Addr) (cdv ct : Value) (us : List Value), us.length = ps.length → bindArgs (PySem.W.fnOf x x (defArgs st) (defBody st) (defScope st) .none kV doc pm an cdv ct) ⟨us, []⟩ = pure (ps.zip us)
/-- a def that raises nothing -/
theorem Df.cl0 (D : Df K mg x st) (S : FnScope N ps (defScope st)) (hb : BindsBy x st ps) (len : ∀ vs H Q E, sp vs H Q E → vs.length = ps.length)
    (body : ∀ (f : Addr) (cdv : Value) (A : Around) (outer : List Env) (s : Shared) (H : Hp) (vs : List V) (Q : VK) (E : XK), Room k (A.deeper (envOfC x (defScope st) s.heap.objs.size f cdv)) → sp vs H Q E →
      ∃ t, PSs (cxOf CX0 P w K mg base N x (defScope st) f cdv A outer s H E).nox (defBody st) t ∧ t { nx := fun _ H' => Q .non H', rt := Q } (start N vs) H) : Cl P w K mg base CX0 (k + 1) x sp := by
  obtain ⟨f, fd, F, g⟩ := D.ex
  refine ⟨f, fd, ps, F.ok S len fun cdv A outer s H vs Q E hr h => ?_, g, F.kp, F.bindsN hb⟩
  obtain ⟨t, a, b⟩ := body f cdv A outer s H vs Q E hr h
  exact ⟨t, a.nox, b⟩
/-- a def that may raise -/
theorem Df.clX (D : Df K mg x st) (S : FnScope N ps (defScope st)) (hb : BindsBy x st ps) (len : ∀ vs H Q E, sp vs H Q E → vs.length = ps.length)
    (body : ∀ (f : Addr) (cdv : Value) (A : Around) (outer : List Env) (s : Shared) (H : Hp) (vs : List V) (Q : VK) (E : XK), Room k (A.deeper (envOfC x (defScope st) s.heap.objs.size f cdv)) → sp vs H Q E →
      ∃ t, PSs (cxOf (L2.CX P w) P w K mg base N x (defScope st) f cdv A outer s H E) (defBody st) t ∧ t { nx := fun _ H' => Q .non H', rt := Q } (start N vs) H) : Cl P w K mg base (L2.CX P w) (k + 1) x sp := by
  obtain ⟨f, fd, F, g⟩ := D.ex
  exact ⟨f, fd, ps, F.ok S len fun cdv A outer s H vs Q E hr h => body f cdv A outer s H vs Q E hr h, g, F.kp, F.bindsN hb⟩
end
/-- x(e, ..) -/
def tK (sp : Sp) (E : XK) (t : TA) : TE := fun σ H Q => t σ H fun vs H1 => sp vs H1 Q E
section
variable {X : Cx} {CX : CXT} {j k : Nat} {x : Str} {sp : Sp} {E : XK} {p pos : Pos} {e : Expr} {es : List Expr} {t tk : TA} {kws : List Keyword}
theorem pe_k (c : Cl X.prog X.w X.K X.mg X.base CX k x sp) (hr : Room j X.A) (hx : Passes CX X E) (ha : PA X (e :: es) t) (hk : k ≤ j := by first | decide | omega) (hg : Gl X x := by rfl)
    (hdb : (x == ("__debug__" : Str)) = false := by decide) (he : starEach (e :: es) X.env = (false, eval e X.env) :: starEach es X.env := by rfl) (hpl : (backTo pos (starEach es X.env)).any (·.1) = false := by rfl) :
    PE X (.Call (.Name x p) (e :: es) [] pos) (tK sp E t) := by
  obtain ⟨f, fd, ps, F, a, b, d⟩ := c.ex
  have h := pe_call (p := p) (pos := pos) F (hr.mono hk) hg a b d .nil hx ha hdb he hpl
  refine ⟨fun pins s σ H Q I q => h.run pins s σ H Q I ?_⟩
  have e2 : (fun (vs : List V) (H1 : Hp) => sp vs H1 Q E) = fun vs H1 => sp (vs ++ []) H1 Q E := by
    funext vs H1
    rw [List.append_nil]
  show t σ H fun vs H1 => sp (vs ++ []) H1 Q E
  rw [← e2]
  exact q
end

/-! ### for and comprehensions over a list or a tuple -/
/-- a list or a tuple -/
def Sq (K : PySem.W.Frag) (H : Hp) (a : Addr) (xs : List V) : Prop := SqL K H a xs ∨ SqT K H a xs
theorem Sq.ext0 {K : PySem.W.Frag} {H H' : Hp} {a : Addr} {xs : List V} (e : Ext [] H H') (h : Sq K H a xs) : Sq K H' a xs := h.elim (fun h => .inl (e.sqL h)) (fun h => .inr (e.sqT h))
theorem Ext.sqL' {K : PySem.W.Frag} {L : List Addr} {H H' : Hp} {a : Addr} {xs : List V} (n : a ∉ L) (e : Ext L H H') (h : SqL K H a xs) : SqL K H' a xs := by
  rcases h with (h | ⟨o, h⟩) | h
  · exact .inl (.inl (e a _ n h))
  · exact .inl (.inr ⟨o, e a _ n h⟩)
  · exact .inr h
theorem Ext.sqT' {K : PySem.W.Frag} {L : List Addr} {H H' : Hp} {a : Addr} {xs : List V} (n : a ∉ L) (e : Ext L H H') (h : SqT K H a xs) : SqT K H' a xs := by
  rcases h with (h | ⟨o, h⟩) | h
  · exact .inl (.inl (e a _ n h))
  · exact .inl (.inr ⟨o, e a _ n h⟩)
  · exact .inr h
theorem Sq.ext {K : PySem.W.Frag} {L : List Addr} {H H' : Hp} {a : Addr} {xs : List V} (n : a ∉ L) (e : Ext L H H') (h : Sq K H a xs) : Sq K H' a xs := h.elim (fun h => .inl (e.sqL' n h)) (fun h => .inr (e.sqT' n h))
/-- one word for both: what is walked stays where what lies at a stays -/
theorem sq_walk {K : PySem.W.Frag} {H : Hp} {a : Addr} {xs : List V} {R : It → Hp → Prop} (h : Sq K H a xs)
    (r : ∀ (J : It) (G : Hp → Prop), G H → (∀ L H', a ∉ L → Ext L H H' → G H') → Walk J xs.length G (YAt xs) → R J H) : ((∃ xs, SqL K H a xs) ∧ R (Itl K a) H) ∨ ((∃ xs, SqT K H a xs) ∧ R (Itt K a) H) := by
  rcases h with h | h
  · exact .inl ⟨⟨xs, h⟩, r _ _ h (fun L H' n e => e.sqL' n h) walk_list⟩
  · exact .inr ⟨⟨xs, h⟩, r _ _ h (fun L H' n e => e.sqT' n h) walk_tup⟩
/-- a for over a list or a tuple at a: what walks it -/
def iSeq (K : PySem.W.Frag) (tl : TE) : TI := fun σ H R => tl σ H fun x H1 => ∃ a xs, x = .ref a ∧ Sq K H1 a xs ∧ ∀ (J : It) (G : Hp → Prop), G H1 → (∀ L H', a ∉ L → Ext L H1 H' → G H') → Walk J xs.length G (YAt xs) → R J H1
theorem pi_seq {X : Cx} {tg l : Expr} {tl : TE} (hl : PE X l tl) : PI X tg l (iSeq X.K tl) := by
  refine ⟨fun pins s σ H R I h => thn (hl.run pins s σ H _ I h) fun v s1 ⟨x, H1, I1, r1, q1⟩ => ?_⟩
  obtain ⟨a, xs, rfl, hq0, q1⟩ := q1
  have q1 := sq_walk (R := R) hq0 q1
  obtain rfl : v = Value.ref a := r1
  have kp : ∀ (o : Obj) (b : Addr) (u : Obj), s1.heap.get? b = some u → (s1.heap.push o).get? b = some u := fun o b u e => Heap.get?_push_of_some _ e
  have fp1 : ∀ (b : Addr), b ∈ [s1.heap.objs.size] → FpOk X pins H1 b := fun b hb => by
    rw [List.mem_singleton.mp hb]
    exact I1.fpOk (Nat.le_refl _) (I1.hok.fresh (Nat.le_refl _))
  rcases q1 with ⟨⟨xs, hq⟩, q⟩ | ⟨⟨xs, hq⟩, q⟩
  · obtain ⟨its, _, p, _⟩ := I1.list hq
    exact wpAny_pyIter_list p.isList ⟨_, [s1.heap.objs.size], _, _, H1, rfl, I1.kept (t' := s1.toks) (kp _), turn_list a _, ⟨_, Heap.get?_push_size _ rfl, rfl, rfl⟩, fp1, q⟩
  · obtain ⟨its, _, p, _⟩ := I1.tuple hq
    exact wpAny_pyIter_tuple (items := its.toArray) p ⟨_, [s1.heap.objs.size], _, _, H1, rfl, I1.kept (t' := s1.toks) (kp _), turn_tuple a _, ⟨_, Heap.get?_push_size _ rfl, rfl, rfl⟩, fp1, q⟩
end K70

/-! K70B: enumerate of a list or a tuple; values of a dict with tuple keys. -/
namespace K70
open PySem PySem.Spec PyProof.Rows L2
/-- enumerate over the tuple at a -/
def IteT (K : PySem.W.Frag) (a : Addr) : It where
  go := fun i H => ∃ xs x, SqT K H a xs ∧ xs[i]? = some x
  yld := fun i H v H' => ∃ T x, v = .ref T ∧ H T = none ∧ H' = upd H T (.tup [.int (i : Nat), x]) ∧ ∀ xs, SqT K H a xs → xs[i]? = some x
  stop := fun i H => ∃ xs, SqT K H a xs ∧ xs.length = i
section
variable {P : Program} {w : World} {K : PySem.W.Frag} {elts : List Expr} {kk : Nat} {tpos : Pos}
/-- its state: the enumerate's record, the tuple's iterator -/
def enT (a e it : Addr) (i : Nat) (h : Heap) : Prop := (∃ old, IsEnum h e it (0 + ((i : Nat) : Int)) old) ∧ h.IsTupleIter it a i ∧ e ≠ it
theorem enT_objs {a e it : Addr} {i : Nat} {h : Heap} (st : enT a e it i h) : ∀ b ∈ [e, it], ∃ o, h.get? b = some o ∧ ∀ v, o.data ≠ .cell v := by
  obtain ⟨⟨old, he⟩, ⟨o, ho, _, hd⟩, _⟩ := st
  intro b hb
  rcases List.mem_cons.mp hb with rfl | hb
  · exact ⟨_, he, fun v q => by cases q⟩
  · rw [List.mem_singleton.mp hb]
    exact ⟨o, ho, fun v q => by rw [hd] at q; cases q⟩
theorem turn_enumT (a e it : Addr) : Turn P w K (.Tuple elts kk tpos) (IteT K a) [e, it] e (enT a e it) := by
  refine ⟨List.mem_cons_self, fun i h st => enT_objs st, fun i h h' st k => ?_, ?_, ?_, ?_⟩
  · obtain ⟨⟨old, he⟩, hi, ne⟩ := st
    exact ⟨⟨old, k e (by simp) _ he⟩, hi.at fun o q => k it (by simp) o q, ne⟩
  · rintro X rfl rfl rfl hc i pins s σ H E I hf ⟨⟨old, he⟩, hi, ne⟩ ⟨xs, x, hq, hx⟩
    obtain ⟨its, rv, p, _⟩ := I.tuple hq
    have lt1 : e < s.heap.objs.size := Heap.lt_size he
    have lt2 : it < s.heap.objs.size := by obtain ⟨_, q, _⟩ := hi; exact Heap.lt_size q
    have na : a ≠ it := fun z => by
      obtain ⟨o1, h1, _, h2⟩ := hi
      obtain ⟨o2, h3, _, n, h4⟩ := p
      rw [z, h1] at h3
      cases h3
      rw [h2] at h4
      cases h4
    have nea : e ∉ [it, a] := fun z => by
      rcases List.mem_cons.mp z with z | z
      · exact ne z
      · obtain ⟨o2, h3, _, n, h4⟩ := p
        rw [← List.mem_singleton.mp z] at h3
        have h5 := h3.symm.trans he
        cases h5
        cases h4
    have hlt : i < its.toArray.size := by
      have l := (List.getElem?_eq_some_iff.mp hx).1
      rw [rv.length] at l
      simpa using l
    refine wpAny_pyNext_enum_itemC (i := i) (Draws.tuple (A := X.A.in1) (show X.A.in1.handled = none from I.ok.hd hc) it a na its.toArray) he ⟨hi, p⟩ hlt ne nea fun u h' tk hu ho hs hT hz k => ?_
    obtain ⟨u0, hu0, ru⟩ := rv.get hx
    have eu : u0 = u := by
      have : its[i]? = some u := by simpa using hu
      rw [hu0] at this
      exact Option.some.inj this
    subst eu
    refine ⟨_, rfl, wpAny_letOwnedTupleGo_enum (s := { s with heap := h', toks := tk + 1 }) ho fun h2 he2 sb => ?_⟩
    have new : ObjOk X.prog X.w (upd H s.heap.objs.size (.tup [.int (i : Nat), x])) h2 s.heap.objs.size (.tup [.int (i : Nat), x]) := by
      have hT2 := (sb.2 _ (Nat.ne_of_gt lt1)).trans hT
      exact ⟨by show 2 ≤ sizeLine; decide, [.int (0 + ((i : Nat) : Int)) tk, u0], .cons ⟨_, by rw [Int.zero_add]⟩ (.cons ru .nil), _, hT2, rfl, _, rfl⟩
    have I1 := I.turnedNew (h' := h2) (t' := tk + 1) (ch := [e, it]) (fun b ob hb q => (sb.2 b (fun z => hb (by simp [z]))).trans (k b ob (fun z => hb (by simp [z])) (fun z => hb (by simp [z])) q)) hf (Nat.le_refl _) new
    have fresh : H s.heap.objs.size = none := I.hok.fresh (Nat.le_refl _)
    refine ⟨.ref s.heap.objs.size, _, I1, rfl, ⟨_, x, rfl, fresh, rfl, fun ys hy => by rw [I.tuple_inj hy hq]; exact hx⟩, ⟨⟨u0, ?_⟩, hs.1.at fun o q => (sb.2 it (Ne.symm ne)).trans q, ne⟩, fun b hb => ?_⟩
    · have e1 : (0 + ((i + 1 : Nat) : Int)) = 0 + (i : Int) + 1 := by omega
      rw [e1]
      exact he2
    · have hb2 : b < s.heap.objs.size := by
        rcases List.mem_cons.mp hb with rfl | hb
        · exact lt1
        · rw [List.mem_singleton.mp hb]
          exact lt2
      rw [upd_ne (Nat.ne_of_lt hb2)]
      exact (hf b hb).1
  · rintro X rfl rfl rfl hc i pins s σ H E I hf ⟨⟨old, he⟩, hi, ne⟩ ⟨xs, hq, hx⟩
    obtain ⟨its, rv, p, _⟩ := I.tuple hq
    obtain ⟨f0, f1, _, f3, f4, f5⟩ := hf it (by simp)
    have na : a ≠ it := fun z => by
      obtain ⟨o1, h1, _, h2⟩ := hi
      obtain ⟨o2, h3, _, n, h4⟩ := p
      rw [z, h1] at h3
      cases h3
      rw [h2] at h4
      cases h4
    have hn : i = its.toArray.size := by
      have l := rv.length
      simp
      omega
    subst hn
    exact wpAny_pyNext_enum_endD (Draws.tuple (A := X.A.in1) (show X.A.in1.handled = none from I.ok.hd hc) it a na its.toArray) he ⟨hi, p⟩ fun h' eb => ⟨rfl, I.turned (t' := s.toks) (fun b o hb q => eb b o hb q) f0 f1 f3 f4 f5⟩
  · rintro A i s Q E ⟨⟨_, he⟩, _⟩ h
    exact wpAny_pyIter_enum he h
end
end K70

/-! K70C: a dict comprehension whose keys are tuples. -/
namespace K70
open PySem PySem.Spec PyProof.Rows L2
section
variable {X : Cx} {pins : List (Addr × Obj)} {σ : L2.St} {H : Hp} {s : Shared}
/-- D[y] = v within a comprehension, the key a tuple -/
theorem set_tupled {E : Value → Shared → Prop} {D b : Addr} {kvs : List (List Key × V)} {k : List Key} {v : V} {r : Value} {Q : Unit → Shared → Prop} (hu : X.A.units + 1 < cLine) (I : Inv X pins σ H s) (hD : H D = some (.dT kvs)) (hb : H b = some (.tup (k.map kV)))
    (hz : kvs.length < sizeLine) (rv : L2.RelV v r) (q : ∀ s', Inv X pins σ (upd H D (.dT (putK kvs k v))) s' → Q () s') : wpAny (model X.prog X.w) X.A (dictSet D (.ref b) r) Q E s := by
  obtain ⟨_, sys, es, kt, dd⟩ := dt_of I.hok hD
  have lz : es.length ≤ sizeLine := by
    have e := Paired.length kt
    omega
  have room : (tupleKind (mixKind X.prog X.w)).room X.A := by
    have h : X.A.units < cLine := by omega
    exact h
  refine wpAny_dictSet_heap (hsz := lz) room (key_of I.hok hb) dd fun h' dd' sb => q _ ?_
  obtain ⟨ob, en, ep, g1, g2, g3, g4, _, g5⟩ := dd'
  have ln : (putK kvs k v).length ≤ sizeLine := Nat.le_trans (length_putK kvs k v) hz
  refine d_write I (by rw [hD]; trivial) sb ⟨ob, g1⟩ ⟨ln, sys, _, (kt.put k hb rv).keeps fun c ys e => ?_, ob, en, ep, g1, g2, g3, g4, g5⟩
  have ne : c ≠ D := ne_of e hD (by intro z; cases z)
  rw [upd_ne ne]
  exact e
end
/-- {k: v for target in iter if ..}, keys tuples: D the new dict -/
def tDcT (wi : TI) (g : TG) (tt : TT) (tk tv : TE) (vs : List Nat) : TE := fun σ H Q => wi σ H fun J H1 => ∀ D, H1 D = none → ∃ W : Nat → Nat → Hp → Prop, (∃ m, W 0 m (upd H1 D (.dT []))) ∧ ∀ i m H, W i m H →
  (J.stop i H ∧ Q (.ref D) H) ∨ (J.go i H ∧ ∃ Nx : Hp → Prop, (∀ H', Nx H' → ∃ m', m' < m ∧ W (i + 1) m' H') ∧ ∀ x H', J.yld i H x H' → g x (wipe σ vs) H' fun σ2 H2 => wipe σ2 vs = wipe σ vs ∧ tt σ2 H2 fun b H3 =>
    if b = true then tk σ2 H3 fun y H4 => tv σ2 H4 fun z H5 => ∃ kvs k b, y = .ref b ∧ H5 b = some (.tup (k.map kV)) ∧ H5 D = some (.dT kvs) ∧ kvs.length < sizeLine ∧ Nx (upd H5 D (.dT (putK kvs k z))) else Nx H3)
section
variable {X : Cx} {kx vx tg iter : Expr} {ifs : List Expr} {scope : Scope} {own : List (Str × Nat)} {pos : Pos} {wi : TI} {g : TG} {tt : TT} {tk tv : TE}
/-- a thing told of each block of this comprehension -/
abbrev InBlk (X : Cx) (scope : Scope) (T : Cx → Prop) : Prop := ∀ (s : Shared) (H : Hp) (C : Addr) (cl : List (Str × Addr)) (fp : List Addr), T (X.blk s H scope (compEnvC scope cl C X.env) fp)
theorem pe_dcT (hc : X.calm = true) (hN : X.N.Nodup) (hu : X.A.units + 1 < cLine) (hi : PI X tg iter wi) (ok : BlkOk X.N X.env.scope scope own) (hg : InBlk X scope fun B => PG B tg g) (ht : InBlk X scope fun B => PTs B ifs tt) (hk : InBlk X scope fun B => PE B kx tk) (he : InBlk X scope fun B => PE B vx tv)
    (hs : ∀ x, foldedSetIterable iter X.env x = pure x := by intro _; rfl) : PE X (.DictComp kx vx [⟨tg, iter, ifs, 0⟩] scope pos) (tDcT wi g tt tk tv (own.map (·.2))) := by
  refine ⟨fun pins s σ H Q I h => ?_⟩
  rw [arm_eval_DictComp]
  have fr : ∀ y ∈ scope.names, y.2 = .free → ∃ c, X.env.cells.lookup y.1 = some c := fun y hy e => (ok.free y hy e).elim (fun k => I.ok.has _ (.inl k)) (fun k => I.ok.has _ (.inr k))
  refine wpAny_comprehension_free rfl hs (closure_ok fr) ok.kind (fun y hy e => (ok.uniq y hy).trans (congrArg some e)) (thn (hi.run pins s σ H _ I h) fun _ _ h1 => thn h1 fun _ s2 h2 => ?_)
  obtain ⟨it, fp, tn, J, H2, rfl, I2, T, st2, f2, q⟩ := h2
  refine wpAny_newObj_type (newEnv_comp ?_)
  -- the dict that is to be filled
  have nD : H2 s2.heap.objs.size = none := I2.hok.fresh (Nat.le_refl _)
  obtain ⟨W, ⟨m0, w0⟩, turn⟩ := q _ nD
  have I3 := I2.laid (t' := s2.toks) (a := s2.heap.objs.size) (o := .dT []) (fun b o e => Heap.get?_push_of_some _ e) (Nat.le_refl _) (dt_empty (P := X.prog) (w := X.w) (H := upd H2 s2.heap.objs.size (.dT [])) s2.heap I2.big)
  have low : ∀ b ∈ fp, b < s2.heap.objs.size := fun b hb => (T.obj _ _ st2 b hb).elim fun o e => Heap.lt_size e.1
  have f3 : ∀ b ∈ fp, FpOk X pins (upd H2 s2.heap.objs.size (.dT [])) b ∧ b < (s2.heap.push { cls := .type "dict", data := .dict #[] }).objs.size := fun b hb => by
    have lt := low b hb
    refine ⟨⟨?_, (f2 b hb).2⟩, by rw [Heap.size_push]; exact Nat.lt_succ_of_lt lt⟩
    rw [upd_ne (Nat.ne_of_lt lt)]
    exact (f2 b hb).1
  have st3 : tn 0 (s2.heap.push { cls := .type "dict", data := .dict #[] }) := T.keep _ _ _ st2 fun b _ o e => Heap.get?_push_of_some _ e
  generalize s2.heap.objs.size = D at nD w0 turn I3 low f3 ⊢
  generalize (s2.heap.push { cls := .type "dict", data := .dict #[] }) = h3 at I3 f3 st3 ⊢
  have nf : ∀ b ∈ fp, upd H2 D (.dT []) b = none := fun b hb => (f3 b hb).1.1
  generalize upd H2 D (.dT []) = H3 at w0 I3 f3 nf
  have I4 := block_start I3 ok hN f3
  -- the four parts, in this block
  have pg := hg { s2 with heap := h3 } H3 h3.objs.size (cellsFrom (h3.objs.size + 1) scope.names (cloFrom X.env.cells scope.names [])) fp
  have pt := ht { s2 with heap := h3 } H3 h3.objs.size (cellsFrom (h3.objs.size + 1) scope.names (cloFrom X.env.cells scope.names [])) fp
  have pk := hk { s2 with heap := h3 } H3 h3.objs.size (cellsFrom (h3.objs.size + 1) scope.names (cloFrom X.env.cells scope.names [])) fp
  have pv := he { s2 with heap := h3 } H3 h3.objs.size (cellsFrom (h3.objs.size + 1) scope.names (cloFrom X.env.cells scope.names [])) fp
  have cL : (compEnvC scope (cellsFrom (h3.objs.size + 1) scope.names (cloFrom X.env.cells scope.names [])) h3.objs.size X.env).locals = h3.objs.size := rfl
  have st4 : tn 0 (pushCells (h3.push { cls := .type "dict", data := .dict #[] }) scope.names) := T.keep _ _ _ st3 fun b _ o e => pushCells_keeps _ _ _ _ (Heap.get?_push_of_some _ e)
  generalize hCE : compEnvC scope (cellsFrom (h3.objs.size + 1) scope.names (cloFrom X.env.cells scope.names [])) h3.objs.size X.env = C at I4 pg pt pk pv cL
  have exf : ∀ {τ : L2.St} {G : Hp} {u : Shared}, Inv (X.blk { s2 with heap := h3 } H3 scope C fp) [] τ G u → (∀ b ∈ fp, G b = none) → ∀ b ∈ fp, FpOk (X.blk { s2 with heap := h3 } H3 scope C fp) [] G b := fun {τ G u} I' hn b hb => by
    exact ⟨hn b hb, (I'.ok.exf b hb).1, I'.ok.exfs b hb, .inl hb, fun x c e => (I'.ok.exf b hb).2 x c e, fun p hp => absurd (show p ∈ ([] : List (Addr × Obj)) ++ [] from hp) (by simp)⟩
  have back : ∀ {τ : L2.St} {G : Hp} {u : Shared}, Inv (X.blk { s2 with heap := h3 } H3 scope C fp) [] τ G u → Inv X pins σ G u ∧ G h3.objs.size = none ∧ ∃ m, u.heap.Ns h3.objs.size m := fun {τ G u} I' => by
    refine ⟨I3.call' (ch := fp) I'.os I'.base I'.hok I'.bare fun b hb => ⟨(f3 b hb).1.2.2.2.1, (f3 b hb).1.2.1, (f3 b hb).1.2.2.2.2.1, (f3 b hb).1.2.2.2.2.2⟩, ?_, ?_⟩
    · have z : G C.locals = none := I'.free
      rwa [cL] at z
    · obtain ⟨m, hn, _⟩ := I'.loc
      have hn : u.heap.Ns C.locals m := hn
      rw [cL] at hn
      exact ⟨m, hn⟩
  show codeAny _ _ (.compStart (.DictComp kx vx [⟨tg, iter, ifs, 0⟩] scope pos) 0 (.ref it) (.ref D) _) _ _
  have loop : codeAny (model X.prog X.w) X.A (.compLoop (.DictComp kx vx [⟨tg, iter, ifs, 0⟩] scope pos) 0 (.ref it) (.ref D) C) (compPost (model X.prog X.w) X.A X.xe none (EP X pins σ Q) (.ref D) h3.objs.size) { s2 with heap := pushCells (h3.push { cls := .type "dict", data := .dict #[] }) scope.names } := by
    refine compLoop_anyD (fun n u => ∃ i G, Inv (X.blk { s2 with heap := h3 } H3 scope C fp) [] (wipe σ (own.map (·.2))) G u ∧ tn i u.heap ∧ (∀ b ∈ fp, G b = none) ∧ W i n G) ?_ m0 ⟨0, H3, I4, st4, nf, w0⟩
    rintro n s5 ⟨i, H5, I5, st5, n5, w5⟩
    rcases turn i n H5 w5 with ⟨stop, qq⟩ | ⟨go, Nx, hNx, step⟩
    · have td := T.done (X.blk { s2 with heap := h3 } H3 scope C fp) rfl rfl rfl hc i [] s5 _ H5 (fun _ _ => False) I5 (exf I5 n5) st5 stop
      refine thnF td fun _ s6 ⟨hr, I6⟩ => ?_
      subst hr
      obtain ⟨I7, nC, m, hn⟩ := back I6
      refine ⟨m, hn, fun h'' sb => ?_⟩
      obtain ⟨p0, p1, _, p3, p4, p5⟩ := I3.fpOk (Nat.le_refl _) nC
      exact ⟨.ref D, H5, I7.turned (t' := s6.toks) (fun b o hb e => (sb.2 b hb).trans e) p0 p1 p3 p4 p5, rfl, qq⟩
    · have ti := T.item (X.blk { s2 with heap := h3 } H3 scope C fp) rfl rfl rfl hc i [] s5 _ H5 (fun _ _ => False) I5 (exf I5 n5) st5 go
      refine thnF ti fun _ s6 ⟨u, hr, h6⟩ => ?_
      subst hr
      refine thnF h6 fun _ s7 ⟨x, H7, I7, r7, y7, st7, n7⟩ => ?_
      have J7 := I7.pinned (exf I7 n7) (T.obj _ _ st7)
      have g1 := pg.run _ s7 _ H7 x u _ J7 r7 (step x H7 y7)
      refine thnF g1 fun _ s8 ⟨σ8, H8, I8, hw8, q8⟩ => ?_
      have g2 := pt.run _ s8 σ8 H8 _ I8 q8
      refine thnF g2 fun b s9 ⟨H9, I9, q9⟩ => ?_
      -- what ends a turn
      have fin : ∀ {t : Shared} {G : Hp}, Inv (X.blk { s2 with heap := h3 } H3 scope C fp) ([] ++ pinsAt fp s7.heap) σ8 G t → Nx G → ∃ m, m < n ∧ ∃ i G', Inv (X.blk { s2 with heap := h3 } H3 scope C fp) [] (wipe σ (own.map (·.2))) G' t ∧ tn i t.heap ∧ (∀ b ∈ fp, G' b = none) ∧ W i m G' := fun {t G} I' nx => by
        obtain ⟨m', hm, w'⟩ := hNx G nx
        have pin' : ∀ b ∈ fp, ∀ o, s7.heap.get? b = some o → t.heap.get? b = some o ∧ G b = none := fun b hb o e =>
          let z := I'.pin (b, o) (List.mem_append_right _ (List.mem_append_right _ (mem_pinsAt hb e)))
          ⟨z.1, z.2.1⟩
        have hl : (wipe σ (own.map (·.2))).length = σ8.length := by rw [← hw8, wipe_length]
        refine ⟨m', hm, i + 1, G, (I'.unpinned (pins := [])).weak hl (fun j v e => (wipe_some (hw8 ▸ e)).1), T.keep _ _ _ st7 fun b hb o e => (pin' b hb o e).1, fun b hb => ?_, w'⟩
        obtain ⟨o, e, _⟩ := T.obj _ _ st7 b hb
        exact (pin' b hb o e).2
      cases b with
      | false => exact fin I9 q9
      | true =>
        have g3 := pk.run _ s9 σ8 H9 _ I9 q9
        refine thnF g3 fun z s10 ⟨yk, H10, I10, r10, q10⟩ => ?_
        have g4 := pv.run _ s10 σ8 H10 _ I10 q10
        refine thnF g4 fun z2 s11 ⟨yv, H11, I11, r11, kvs, k, b, ek, hb11, hD11, hz11, nx⟩ => ?_
        subst ek
        cases (show z = Value.ref b from r10)
        exact set_tupled (X := X.blk { s2 with heap := h3 } H3 scope C fp) hu I11 hD11 hb11 hz11 r11 fun s12 I12 => fin I12 nx
  rw [← hCE] at loop
  exact codeAny_compStart_dict loop (T.self X.A 0 _ _ _ st4 loop)
end
end K70

/-! K70D: enumerate of a list or of a tuple, as it begins and walks. -/
namespace K70
open PySem PySem.Spec PyProof.Rows L2
theorem enum_new1 {v : Value} {o : Obj} {G : Heap → Prop} (B : Begins v o G) :
    Meets (Builtin.«enumerate.__new__» ⟨[.type "enumerate", v], []⟩) (fun _ R s => G s.heap ∧ R (.ok (.ret (.ref (s.heap.push o).objs.size)))
      { s with heap := (s.heap.push o).push { cls := .type "enumerate", data := .fields #[.none, .bool false, .ref s.heap.objs.size, rawInt 0, .none, .none] } }) :=
  .of_wp fun prog w A R s q => by
    obtain ⟨hp, gs, dr, tk, os⟩ := s
    obtain ⟨g1, q⟩ := q
    have sub := sub_enumerate
    have it : ∀ {A' : Around} {E : Value → Shared → Prop} {Q : Value → Shared → Prop}, Q (.ref hp.objs.size) ⟨hp.push o, gs, dr, tk, os⟩ → wpAny (model prog w) A' (pyIter v) Q E ⟨hp, gs, dr, tk, os⟩ := fun q => B.iter prog w _ _ ⟨hp, gs, dr, tk, os⟩ _ g1 q
    wp_walk using it
    refine wpAny_stack_any fun st => wpAny_pure ?_
    split
    · rename_i c _ _ _ _ _
      cases (c == Value.type "enumerate") <;> (wp_walk using it; exact ⟨_, rfl, q⟩)
    · wp_walk using it
      exact ⟨_, rfl, q⟩
section
variable {prog : Program} {w : World} {A : Around} {E : Value → Shared → Prop} {s : Shared}
theorem call_enum1 {v : Value} {o : Obj} {G : Heap → Prop} {Q : Value → Shared → Prop} (B : Begins v o G) (g : G s.heap)
    (q : ∀ h', IsEnum h' (s.heap.objs.size + 1) s.heap.objs.size 0 .none → h'.get? s.heap.objs.size = some o → (∀ b u, s.heap.get? b = some u → h'.get? b = some u) → Q (.ref (s.heap.objs.size + 1)) { s with heap := h' }) :
    wpAny (model prog w) A (call (.type "enumerate") [v]) Q E s := by
  refine callType_new F.called_enumerate (by decide) (F.typeCall_enumerate_1 _) (F.newCall_enumerate_1 _) (fun obj => F.args_object_init_2 obj _) F.entry_enumerate_new (enum_new1 B) ⟨g, ?_⟩
  show _ ∧ _
  rw [Heap.size_push]
  have at1 : IsEnum ((s.heap.push o).push { cls := .type "enumerate", data := .fields #[.none, .bool false, .ref s.heap.objs.size, rawInt 0, .none, .none] }) (s.heap.objs.size + 1) s.heap.objs.size 0 .none := by
    have z := Heap.get?_push_size (s.heap.push o) (o := { cls := .type "enumerate", data := .fields #[.none, .bool false, .ref s.heap.objs.size, rawInt 0, .none, .none] }) rfl
    rwa [Heap.size_push] at z
  exact ⟨⟨_, at1, rfl⟩, q _ at1 (Heap.get?_push_of_some _ (Heap.get?_push_size _ B.free)) fun b u x => Heap.get?_push_of_some _ (Heap.get?_push_of_some _ x)⟩
end
abbrev YEn (xs : List V) : Nat → Hp → V → Hp → Prop := YPair (fun i => some (.int (i : Nat))) (fun i => xs[i]?)
theorem walk_enumT {K : PySem.W.Frag} {a : Addr} {xs : List V} : Walk (IteT K a) xs.length (fun H => SqT K H a xs) (YEn xs) := by
  refine ⟨fun i H lt g => ⟨xs, xs[i], g, List.getElem?_eq_getElem lt⟩, fun H g => ⟨xs, g, rfl⟩, fun i H x H' lt g y => ?_⟩
  obtain ⟨T, x, ev, n, e, al⟩ := y
  exact ⟨T, _, x, ev, n, e, rfl, al xs g⟩
/-- one word for both -/
theorem enum_walk {K : PySem.W.Frag} {H : Hp} {a : Addr} {xs : List V} {R : It → Hp → Prop} (h : Sq K H a xs)
    (r : ∀ (J : It) (G : Hp → Prop), G H → (∀ L H', a ∉ L → Ext L H H' → G H') → Walk J xs.length G (YEn xs) → R J H) : ((∃ xs, SqL K H a xs) ∧ R (Ite K a) H) ∨ ((∃ xs, SqT K H a xs) ∧ R (IteT K a) H) := by
  rcases h with h | h
  · exact .inl ⟨⟨xs, h⟩, r _ _ h (fun L H' n e => e.sqL' n h) walk_enum⟩
  · exact .inr ⟨⟨xs, h⟩, r _ _ h (fun L H' n e => e.sqT' n h) walk_enumT⟩
/-- what enumerate walks -/
def iEnumA (K : PySem.W.Frag) (ta : TA) : TI := fun σ H R => ta σ H fun vs H1 => ∃ a xs, vs = [.ref a] ∧ Sq K H1 a xs ∧ ∀ (J : It) (G : Hp → Prop), G H1 → (∀ L H', a ∉ L → Ext L H1 H' → G H') → Walk J xs.length G (YEn xs) → R J H1
theorem pi_enumA {X : Cx} {e : Expr} {ta : TA} {p pos tpos : Pos} {elts : List Expr} {kk : Nat} (hg : Gl X "enumerate") (hm : X.mg "enumerate" = none) (ha : PA X [e] ta) (hs : starEach [e] X.env = [(false, eval e X.env)] := by rfl) :
    PI X (.Tuple elts kk tpos) (.Call (.Name "enumerate" p) [e] [] pos) (iEnumA X.K ta) := by
  refine ⟨fun pins s σ H R I h => ?_⟩
  refine Call_ (ld_blt I hg hm boot_enumerate (PyProof.Rows.callWith_type1 (thn (ha.run pos pins s σ H _ I h) fun us s1 ⟨vs, H1, I1, r1, q1⟩ => ?_) hs rfl))
  obtain ⟨a, xs, rfl, hq0, q1⟩ := q1
  have q1 := enum_walk (R := R) hq0 q1
  cases r1 with
  | cons r rr =>
    cases rr
    cases r
    have fp1 : ∀ (b : Addr), b ∈ [s1.heap.objs.size + 1, s1.heap.objs.size] → FpOk X pins H1 b := fun b hb => by
      have le : s1.heap.objs.size ≤ b := by
        rcases List.mem_cons.mp hb with rfl | hb
        · exact Nat.le_add_right _ _
        · exact Nat.le_of_eq (List.mem_singleton.mp hb).symm
      exact I1.fpOk le (I1.hok.fresh le)
    rcases q1 with ⟨⟨xs, hq⟩, q⟩ | ⟨⟨xs, hq⟩, q⟩
    · obtain ⟨its, _, p', _⟩ := I1.list hq
      refine call_enum1 (begins_list a its.toArray) p'.isList fun h' he hit hk => wpAny_pyIter_enum he ?_
      exact ⟨_, [s1.heap.objs.size + 1, s1.heap.objs.size], _, _, H1, rfl, I1.kept (t' := s1.toks) hk, turn_enum a _ s1.heap.objs.size, ⟨⟨.none, he⟩, ⟨_, hit, rfl, rfl⟩, Nat.succ_ne_self _⟩, fp1, q⟩
    · obtain ⟨its, _, p', _⟩ := I1.tuple hq
      refine call_enum1 (begins_tuple a its.toArray) p' fun h' he hit hk => wpAny_pyIter_enum he ?_
      exact ⟨_, [s1.heap.objs.size + 1, s1.heap.objs.size], _, _, H1, rfl, I1.kept (t' := s1.toks) hk, turn_enumT a _ s1.heap.objs.size, ⟨⟨.none, he⟩, ⟨_, hit, rfl, rfl⟩, Nat.succ_ne_self _⟩, fp1, q⟩
end K70

/-! K70E: the values of a dict with tuple keys, walked. -/
namespace K70
open PySem PySem.Spec PyProof.Rows L2
section
variable {X : Cx} {pins : List (Addr × Obj)} {σ : L2.St} {H : Hp} {s : Shared} {d : Addr} {o : Obj}
theorem frz_vals {kvs : List (List Key × V)} (I : L2.Inv X pins σ H s) (h : H d = some (.frz o (.dT kvs))) : (d == sysModules) = false ∧ ∃ (es : Array DictEntry) (ep : Nat), o.data = .dict es ep ∧ s.heap.DictRaw d es ep ∧ es.size = kvs.length ∧
    ∀ (i : Nat) (hi : i < es.size) (k : List Key) (v : V), kvs[i]? = some (k, v) → L2.RelV v es[i].val := by
  obtain ⟨hd, _, sys, xs, pr, dd⟩ := I.hok d _ h
  obtain ⟨o', es, ep, g1, g2, g3, g4, _⟩ := dd
  rw [hd] at g1
  cases g1
  have n1 : es.size = xs.length := size_of_entries g4
  have n2 : kvs.length = xs.length := Paired.length pr
  refine ⟨sys, es, ep, g3, ⟨o, hd, g2, g3⟩, by omega, fun i hi k v e => ?_⟩
  obtain ⟨y, hy, e1, e2, r⟩ := L2.paired_get pr e
  have z := entry_at g4 i
  rw [hy, Array.getElem?_eq_getElem hi] at z
  have z := Option.some.inj z
  rw [z]
  exact r
end
/-- the values of the locked dict at d, keys tuples -/
def ItvT (d : Addr) (o : Obj) (kvs : List (List Key × V)) : It where
  go := fun i H => H d = some (.frz o (.dT kvs)) ∧ i < kvs.length
  yld := fun i H x H' => H' = H ∧ ∃ k, kvs[i]? = some (k, x)
  stop := fun i H => H d = some (.frz o (.dT kvs)) ∧ kvs.length = i
section
variable {P : Program} {w : World} {K : PySem.W.Frag} {tg : Expr} {d : Addr} {o : Obj} {es : Array DictEntry} {ep : Nat}
theorem turn_valsT {kvs : List (List Key × V)} (it : Addr) (ho : o.data = .dict es ep) (hz : es.size = kvs.length) : Turn P w K tg (ItvT d o kvs) [it] it (fun i h => h.IsValIter it d i es.size ep) := by
  refine ⟨List.mem_cons_self, fun i h st b hb => ?_, fun i h h' st k => st.at fun oi e => k it (by simp) oi e, ?_, ?_, fun A i s Q E st h => wpAny_pyIter_valiter st h⟩
  · obtain ⟨oi, e, _, dd⟩ := st
    rw [List.mem_singleton.mp hb]
    exact ⟨oi, e, fun v z => by rw [dd] at z; cases z⟩
  · rintro X rfl rfl rfl hc i pins s σ H E I hf st ⟨hd, hi⟩
    obtain ⟨f0, f1, _, f3, f4, f5⟩ := hf it (by simp)
    obtain ⟨_, es', ep', ho', raw, hz', vals⟩ := frz_vals I hd
    obtain ⟨rfl, rfl⟩ := dict_ep ho ho'
    have lt : i < es'.size := by omega
    refine wpAny_pyNext_values_item_raw st raw lt fun h' st' sb => ?_
    have I1 : L2.Inv X pins σ H { s with heap := h' } := I.turned (t' := s.toks) (fun b u hb e => (sb.2 b hb).trans e) f0 f1 f3 f4 f5
    obtain ⟨oi, e, c, dd⟩ := id st'
    have hk : kvs[i]? = some (kvs[i].1, kvs[i].2) := List.getElem?_eq_getElem hi
    exact ⟨_, rfl, go_of (s := { s with heap := h' }) e c dd (by decide) ⟨kvs[i].2, H, I1, vals i lt _ _ hk, ⟨rfl, kvs[i].1, hk⟩, st', fun b hb => (hf b hb).1⟩⟩
  · rintro X rfl rfl rfl hc i pins s σ H E I hf st ⟨hd, hi⟩
    obtain ⟨f0, f1, _, f3, f4, f5⟩ := hf it (by simp)
    obtain ⟨_, es', ep', ho', raw, hz', _⟩ := frz_vals I hd
    obtain ⟨rfl, rfl⟩ := dict_ep ho ho'
    exact wpAny_pyNext_values_end_raw (I.ok.hd hc) st raw (by omega) fun h' eb => ⟨rfl, I.turned (t' := s.toks) (fun b u hb e => eb b u hb e) f0 f1 f3 f4 f5⟩
end
/-- .. in e.values(), e a dict with tuple keys that is no more written from here on -/
def iValsT (td : TE) : TI := fun σ H R => td σ H fun x H1 => ∃ d kvs, x = .ref d ∧ H1 d = some (.dT kvs) ∧ ∀ od, R (ItvT d od kvs) (upd H1 d (.frz od (.dT kvs)))
theorem pi_valsT {X : Cx} {tg e : Expr} {td : TE} {apos cpos : Pos} (he : PE X e td) (hb : attributeBase e "values" X.env (eval e X.env) = eval e X.env := by rfl) (hl : (apos.endLine == cpos.line) = true := by rfl) :
    PI X tg (.Call (.Attribute e "values" apos) [] [] cpos) (iValsT td) := by
  refine ⟨fun pins s σ H R I h => ?_⟩
  refine wpAny_Call_method (T := "dict") (id := "dict.values") hb rfl hl F.plainAttrs_dict F.slot_dict_values F.type_dict_values (thn (he.run pins s σ H _ I h) fun u s1 ⟨x, H1, I1, rx, d, kvs, ex, hd, q⟩ => ?_)
  subst ex
  obtain rfl : u = Value.ref d := rx
  obtain ⟨od, I1⟩ := I1.lock hd trivial
  obtain ⟨sys, es, ep, ho, raw, hz, _⟩ := frz_vals I1 (by rw [upd_same])
  obtain ⟨o', g1, g2, _⟩ := id raw
  refine ⟨raw.typeIs, ?_, ?_⟩
  · intro x hx
    cases hx
    exact ⟨o', g1, g2.2.1⟩
  have I2 : L2.Inv X pins σ (upd H1 d (.frz od (.dT kvs))) { s1 with heap := s1.heap.push { cls := .type "dict_values", data := .fields #[.ref d] } } := I1.kept (t' := s1.toks) fun b ob q => Heap.get?_push_of_some _ q
  have fin : wpAny (model X.prog X.w) X.A (pyIter (.ref s1.heap.objs.size)) (PIE X pins σ tg R) X.xe { s1 with heap := s1.heap.push { cls := .type "dict_values", data := .fields #[.ref d] } } := by
    refine wpAny_pyIter_values_raw (d := d) ⟨_, Heap.get?_push_size _ rfl, rfl, rfl⟩ (raw.at fun o e => Heap.get?_push_of_some _ e) (pi_one (tk := s1.toks) I2 _ (turn_valsT _ ho hz) ⟨_, Heap.get?_push_size _ rfl, rfl, rfl⟩ (q od))
  show wpAny _ _ (callWith cpos (.builtin "dict.values") [.ref d] [] []) _ X.xe s1
  exact method_meetsIn F.slot_dict_values F.entry_dict_values rfl (PySem.evalArgs_none ⟨rfl, raw.typeIs, F.args_dict_values_1 _, _, meets_dict_values_raw d sys, ⟨_, _, raw⟩, fin⟩)
theorem walk_valsT {d : Addr} {o : Obj} {kvs : List (List Key × V)} : Walk (ItvT d o kvs) kvs.length (fun H => H d = some (.frz o (.dT kvs))) (fun i H x H' => H' = H ∧ ∃ k, kvs[i]? = some (k, x)) :=
  ⟨fun i H lt g => ⟨g, lt⟩, fun H g => ⟨g, rfl⟩, fun i H x H' lt g y => y⟩
/-! ### dict comprehensions over a walk -/
section
variable {J : It} {n : Nat} {G : Hp → Prop} {Y : Nat → Hp → V → Hp → Prop} {g : TG} {tt : TT} {tk tv : TE} {vs : List Nat} {σ : L2.St} {H1 : Hp} {D : Addr} {Qd : Hp → Prop}
theorem dc_it (w : Walk J n G Y) (Pv : Nat → Hp → Prop) (h0 : Pv 0 (upd H1 D (.dK []))) (hG : ∀ i H, i ≤ n → Pv i H → G H)
    (hs : ∀ i x H H', i < n → Pv i H → Y i H x H' → g x (wipe σ vs) H' fun σ2 H2 => wipe σ2 vs = wipe σ vs ∧ tt σ2 H2 fun b H3 =>
      if b = true then tk σ2 H3 fun y H4 => tv σ2 H4 fun z H5 => ∃ kvs k, y = kV k ∧ H5 D = some (.dK kvs) ∧ kvs.length < sizeLine ∧ Pv (i + 1) (upd H5 D (.dK (putK kvs k z))) else Pv (i + 1) H3) (hd : ∀ H, Pv n H → Qd H) :
    ∃ W : Nat → Nat → Hp → Prop, (∃ m, W 0 m (upd H1 D (.dK []))) ∧ ∀ i m H, W i m H →
      (J.stop i H ∧ Qd H) ∨ (J.go i H ∧ ∃ Nx : Hp → Prop, (∀ H', Nx H' → ∃ m', m' < m ∧ W (i + 1) m' H') ∧ ∀ x H', J.yld i H x H' → g x (wipe σ vs) H' fun σ2 H2 => wipe σ2 vs = wipe σ vs ∧ tt σ2 H2 fun b H3 =>
        if b = true then tk σ2 H3 fun y H4 => tv σ2 H4 fun z H5 => ∃ kvs k, y = kV k ∧ H5 D = some (.dK kvs) ∧ kvs.length < sizeLine ∧ Nx (upd H5 D (.dK (putK kvs k z))) else Nx H3) := by
  refine ⟨fun i m H => m + i = n ∧ Pv i H, ⟨n, rfl, h0⟩, fun i m H ⟨e, p⟩ => ?_⟩
  have le : i ≤ n := by omega
  rcases Nat.lt_or_eq_of_le le with lt | rfl
  · exact .inr ⟨w.goes i H lt (hG i H le p), Pv (i + 1), fun H' p' => ⟨n - (i + 1), by omega, by omega, p'⟩, fun x H' y => hs i x H H' lt p (w.yields i H x H' lt (hG i H le p) y)⟩
  · exact .inl ⟨w.stops H (hG i H le p), hd H p⟩
theorem dcT_it (w : Walk J n G Y) (Pv : Nat → Hp → Prop) (h0 : Pv 0 (upd H1 D (.dT []))) (hG : ∀ i H, i ≤ n → Pv i H → G H)
    (hs : ∀ i x H H', i < n → Pv i H → Y i H x H' → g x (wipe σ vs) H' fun σ2 H2 => wipe σ2 vs = wipe σ vs ∧ tt σ2 H2 fun b H3 =>
      if b = true then tk σ2 H3 fun y H4 => tv σ2 H4 fun z H5 => ∃ kvs k b, y = .ref b ∧ H5 b = some (.tup (k.map kV)) ∧ H5 D = some (.dT kvs) ∧ kvs.length < sizeLine ∧ Pv (i + 1) (upd H5 D (.dT (putK kvs k z))) else Pv (i + 1) H3) (hd : ∀ H, Pv n H → Qd H) :
    ∃ W : Nat → Nat → Hp → Prop, (∃ m, W 0 m (upd H1 D (.dT []))) ∧ ∀ i m H, W i m H →
      (J.stop i H ∧ Qd H) ∨ (J.go i H ∧ ∃ Nx : Hp → Prop, (∀ H', Nx H' → ∃ m', m' < m ∧ W (i + 1) m' H') ∧ ∀ x H', J.yld i H x H' → g x (wipe σ vs) H' fun σ2 H2 => wipe σ2 vs = wipe σ vs ∧ tt σ2 H2 fun b H3 =>
        if b = true then tk σ2 H3 fun y H4 => tv σ2 H4 fun z H5 => ∃ kvs k b, y = .ref b ∧ H5 b = some (.tup (k.map kV)) ∧ H5 D = some (.dT kvs) ∧ kvs.length < sizeLine ∧ Nx (upd H5 D (.dT (putK kvs k z))) else Nx H3) := by
  refine ⟨fun i m H => m + i = n ∧ Pv i H, ⟨n, rfl, h0⟩, fun i m H ⟨e, p⟩ => ?_⟩
  have le : i ≤ n := by omega
  rcases Nat.lt_or_eq_of_le le with lt | rfl
  · exact .inr ⟨w.goes i H lt (hG i H le p), Pv (i + 1), fun H' p' => ⟨n - (i + 1), by omega, by omega, p'⟩, fun x H' y => hs i x H H' lt p (w.yields i H x H' lt (hG i H le p) y)⟩
  · exact .inl ⟨w.stops H (hG i H le p), hd H p⟩
end
end K70

/-! K70F: list(d.items()), the keys ints, texts or tuples. -/
namespace K70
open PySem PySem.Spec PyProof.Rows L2
/-- ps: the keys and the values of the dict at d -/
inductive EntOf (H : Hp) (d : Addr) (ps : List (V × V)) : Prop where
  | k (kvs : List (Key × V)) (h : H d = some (.dK kvs)) (e : ps = kvs.map fun kv => (kV kv.1, kv.2))
  | t (kvs : List (List Key × V)) (h : H d = some (.dT kvs)) (e : Paired (fun (p : V × V) (kv : List Key × V) => (∃ q, p.1 = .ref q ∧ H q = some (.tup (kv.1.map kV))) ∧ p.2 = kv.2) ps kvs)
theorem pair_lists {α β : Type} {F : α → β → Prop} : ∀ (ys : List β), (∀ y ∈ ys, ∃ x, F x y) → ∃ xs, Paired F xs ys
  | [], _ => ⟨[], .nil⟩
  | y :: r, h => by
    obtain ⟨x, hx⟩ := h y (by simp)
    obtain ⟨xs, hs⟩ := pair_lists r fun z hz => h z (List.mem_cons_of_mem _ hz)
    exact ⟨x :: xs, .cons hx hs⟩
theorem pair_ix {α β : Type} {F : α → β → Prop} : ∀ {xs : List α} {ys : List β}, xs.length = ys.length → (∀ (i : Nat) x y, xs[i]? = some x → ys[i]? = some y → F x y) → Paired F xs ys
  | [], [], _, _ => .nil
  | [], _ :: _, e, _ => by simp at e
  | _ :: _, [], e, _ => by simp at e
  | x :: xs, y :: ys, e, h => .cons (h 0 x y rfl rfl) (pair_ix (by simpa using e) fun i a b ha hb => h (i + 1) a b (by simpa using ha) (by simpa using hb))
theorem pair_at {α β : Type} {F : α → β → Prop} {xs : List α} {ys : List β} (h : Paired F xs ys) : ∀ {i : Nat} {x : α} {y : β}, xs[i]? = some x → ys[i]? = some y → F x y := by
  induction h with
  | nil => intro i x y a; simp at a
  | cons r _ ih =>
    intro i x y a b
    cases i with
    | zero => simp at a b; subst a b; exact r
    | succ j => exact ih (by simpa using a) (by simpa using b)
section
variable {X : Cx} {pins : List (Addr × Obj)} {σ : L2.St} {H : Hp} {s : Shared} {d : Addr}
/-- a dict, as the heap has it -/
theorem raw_of (I : L2.Inv X pins σ H s) (h : (∃ kvs, H d = some (.dK kvs)) ∨ ∃ kvs, H d = some (.dT kvs)) : (d == sysModules) = false ∧ ∃ (es : Array DictEntry) (ep : Nat) (ps : List (V × V)), s.heap.DictRaw d es ep ∧ es.size ≤ sizeLine ∧ EntOf H d ps ∧ ps.length = es.size ∧
    ∀ (i : Nat) (hi : i < es.size) (p : V × V), ps[i]? = some p → L2.RelV p.1 es[i].key ∧ L2.RelV p.2 es[i].val := by
  rcases h with ⟨kvs, h⟩ | ⟨kvs, h⟩
  · obtain ⟨z, sys, vs, kv, dd⟩ := dk_of I.hok h
    obtain ⟨es, ep, raw, hz, al⟩ := dd.raw
    have n1 : kvs.length = vs.length := Paired.length kv
    refine ⟨sys, es, ep, _, raw, by omega, .k kvs h rfl, by rw [List.length_map]; omega, fun i hi p e => ?_⟩
    rw [List.getElem?_map] at e
    cases q : kvs[i]? with
    | none => rw [q] at e; cases e
    | some kv0 =>
      rw [q] at e
      cases e
      obtain ⟨u, hu, ru⟩ := kv_get kv (k := kv0.1) (v := kv0.2) q
      obtain ⟨b1, b2⟩ := al i hi _ _ hu
      exact ⟨relV_key b1, by rw [b2]; exact ru⟩
  · obtain ⟨z, sys, xs, kt, dd⟩ := dt_of I.hok h
    obtain ⟨es, ep, raw, hz, al⟩ := dd.raw
    have n1 : kvs.length = xs.length := Paired.length kt
    have nz : ((kvs.zip xs).map fun z => (V.ref z.2.2.1, z.1.2)).length = kvs.length := by rw [List.length_map, List.length_zip]; omega
    have atz : ∀ (i : Nat) (p : V × V), ((kvs.zip xs).map fun z => (V.ref z.2.2.1, z.1.2))[i]? = some p → ∃ kv x, kvs[i]? = some kv ∧ xs[i]? = some x ∧ p = (V.ref x.2.1, kv.2) := fun i p e => by
      rw [List.getElem?_map] at e
      cases q : (kvs.zip xs)[i]? with
      | none => rw [q] at e; cases e
      | some z =>
        rw [q] at e
        obtain ⟨q1, q2⟩ := List.getElem?_zip_eq_some.mp q
        exact ⟨z.1, z.2, q1, q2, (Option.some.inj e).symm⟩
    refine ⟨sys, es, ep, _, raw, by omega, .t kvs h (pair_ix nz fun i p kv e1 e2 => ?_), by omega, fun i hi p e => ?_⟩
    · obtain ⟨kv', x, a1, a2, rfl⟩ := atz i p e1
      rw [e2] at a1
      cases a1
      obtain ⟨b1, b2, _⟩ := pair_at kt e2 a2
      exact ⟨⟨_, rfl, b2⟩, rfl⟩
    · obtain ⟨kv, x, a1, a2, rfl⟩ := atz i p e
      obtain ⟨b1, b2, b3⟩ := pair_at kt a1 a2
      obtain ⟨y, c1, c2, c3, _⟩ := al i hi
      rw [a2] at c1
      cases c1
      exact ⟨c2, by rw [c3]; exact b3⟩
/-- new tuples of pairs at as, the list of them at S -/
def layP (H : Hp) (S : Addr) (as : List Addr) (ps : List (V × V)) : Hp := fun b => match (as.zip ps).lookup b with
  | some q => some (.tup [q.1, q.2])
  | none => if b = S then some (.lst (as.map V.ref)) else H b
theorem zip_none : ∀ {as : List Addr} {ps : List (V × V)} {b : Addr}, b ∉ as → (as.zip ps).lookup b = none
  | [], _, _, _ => rfl
  | _ :: _, [], _, _ => rfl
  | a :: as, p :: ps, b, h => by
    have n : (b == a) = false := by
      rw [beq_eq_false_iff_ne]
      exact fun z => h (by rw [z]; simp)
    simp only [List.zip_cons_cons, List.lookup_cons, n]
    exact zip_none fun z => h (List.mem_cons_of_mem _ z)
theorem zip_at : ∀ {as : List Addr} {ps : List (V × V)} {i : Nat} {b : Addr} {p : V × V}, as.Nodup → as[i]? = some b → ps[i]? = some p → (as.zip ps).lookup b = some p
  | [], _, _, _, _, _, h, _ => by simp at h
  | _ :: _, [], _, _, _, _, _, h => by simp at h
  | a :: as, q :: ps, 0, b, p, _, h1, h2 => by
    simp at h1 h2
    subst h1 h2
    simp [List.lookup_cons]
  | a :: as, q :: ps, i + 1, b, p, nd, h1, h2 => by
    have h1 : as[i]? = some b := by simpa using h1
    have h2 : ps[i]? = some p := by simpa using h2
    have nd := List.nodup_cons.mp nd
    have n : (b == a) = false := by
      rw [beq_eq_false_iff_ne]
      exact fun z => nd.1 (by rw [← z]; exact List.mem_of_getElem? h1)
    simp only [List.zip_cons_cons, List.lookup_cons, n]
    exact zip_at nd.2 h1 h2
end
/-- what list(d.items()) tells -/
def rItemsA : V → Hp → VK → Prop := fun x H Q => ∃ d, x = .ref d ∧ ((∃ kvs, H d = some (.dK kvs)) ∨ ∃ kvs, H d = some (.dT kvs)) ∧
  ∀ (ps : List (V × V)) (H' : Hp) (p : Addr) (ts : List Addr), EntOf H d ps → Ext [] H H' → H p = none → (∀ t ∈ ts, H t = none) → H' p = some (.lst (ts.map V.ref)) → Paired (fun (t : Addr) (q : V × V) => H' t = some (.tup [q.1, q.2])) ts ps → Q (.ref p) H'
def tItemsA (te : TE) : TE := fun σ H Q => te σ H fun x H1 => rItemsA x H1 Q
theorem vals_of_refs : ∀ as : List Addr, Vals (as.map V.ref) (as.map Value.ref)
  | [] => .nil
  | a :: r => .cons rfl (vals_of_refs r)
section
variable {X : Cx} {e : Expr} {te : TE} {p apos cpos pos : Pos}
theorem pe_itemsA (hc : X.calm = true) (he : PE X e te) (hg : Gl X "list") (hm : X.mg "list" = none) (hv : bootBuiltins "list" = some (.type "list") := by rfl) (hb : attributeBase e "items" X.env (eval e X.env) = eval e X.env := by rfl) (hl : (apos.endLine == cpos.line) = true := by rfl)
    (hs : starEach [.Call (.Attribute e "items" apos) [] [] cpos] X.env = (false, eval (.Call (.Attribute e "items" apos) [] [] cpos) X.env) :: starEach [] X.env := by rfl) : PE X (.Call (.Name "list" p) [.Call (.Attribute e "items" apos) [] [] cpos] [] pos) (tItemsA te) := by
  refine ⟨fun pins s σ H Q I hq => ?_⟩
  refine wpAny_Call_Name_kw (ld_blt I hg hm hv (PyProof.Rows.callWith_type1 ?_ hs rfl))
  rw [hs]
  show wpAny _ _ (spliced ((false, eval (.Call (.Attribute e "items" apos) [] [] cpos) X.env) :: backTo pos (starEach [] X.env))) _ _ s
  refine Calls.spliced_cons (wpAny_Call_method (T := "dict") (id := "dict.items") hb rfl hl F.plainAttrs_dict F.slot_dict_items F.type_dict_items (thn (he.run pins s σ H _ I hq) fun u s1 ⟨x, H1, I1, rx, d, ex, hd, q⟩ => ?_))
  subst ex
  obtain rfl : u = Value.ref d := rx
  obtain ⟨sys, es, ep, ps, raw, hz, ent, nl, al⟩ := raw_of I1 hd
  obtain ⟨o', g1, g2, _⟩ := id raw
  have I2 : L2.Inv X pins σ H1 { s1 with heap := s1.heap.push { cls := .type "dict_items", data := .fields #[.ref d] } } := I1.kept (t' := s1.toks) fun b ob q => Heap.get?_push_of_some _ q
  refine ⟨raw.typeIs, fun x hx => by cases hx; exact ⟨o', g1, g2.2.1⟩, ?_⟩
  show wpAny _ _ (callWith cpos (.builtin "dict.items") [.ref d] [] []) _ X.xe s1
  refine method_meetsIn F.slot_dict_items F.entry_dict_items rfl (PySem.evalArgs_none ⟨rfl, raw.typeIs, F.args_dict_items_1 _, _, meets_dict_items_raw d sys, ⟨_, _, raw⟩, Calls.spliced_nil ?_⟩)
  refine PySem.W.dil_call (es := es) (ep := ep) (I1.ok.hd hc) ⟨_, Heap.get?_push_size _ rfl, rfl, rfl⟩ (raw.at fun o e => Heap.get?_push_of_some _ e) hz fun h' tk acc c as hk hS hl hG hacc => ?_
  -- what is laid
  generalize hS2 : ({ s1 with heap := s1.heap.push { cls := .type "dict_items", data := .fields #[.ref d] } } : Shared) = s2 at I2 hk hS hG ⊢
  have nd : as.Nodup := List.Pairwise.imp (fun {a b} (h : a < b) => Nat.ne_of_lt h) hG.rise
  have nS : s2.heap.objs.size ∉ as := fun z => Nat.lt_irrefl _ (hG.above _ z)
  have new : ∀ t ∈ as, H1 t = none := fun t ht => I2.hok.fresh (Nat.le_of_lt (hG.above t ht))
  have newS : H1 s2.heap.objs.size = none := I2.hok.fresh (Nat.le_refl _)
  have off : ∀ b, b ∉ as → b ≠ s2.heap.objs.size → layP H1 s2.heap.objs.size as ps b = H1 b := fun b h1 h2 => by
    unfold layP
    rw [zip_none h1]
    exact if_neg h2
  have kp : ∀ b u, H1 b = some u → layP H1 s2.heap.objs.size as ps b = some u := fun b u e => (off b (fun z => by rw [new b z] at e; cases e) fun z => by rw [z, newS] at e; cases e).trans e
  have eS : layP H1 s2.heap.objs.size as ps s2.heap.objs.size = some (.lst (as.map V.ref)) := by
    unfold layP
    rw [zip_none nS]
    exact if_pos rfl
  have atT : ∀ (i : Nat) (b : Addr) (q : V × V), as[i]? = some b → ps[i]? = some q → layP H1 s2.heap.objs.size as ps b = some (.tup [q.1, q.2]) := fun i b q e1 e2 => by
    unfold layP
    rw [zip_at nd e1 e2]
  have low : ∀ b o, s2.heap.get? b = some o → b ∉ as ∧ b ≠ s2.heap.objs.size := fun b o e => ⟨fun z => absurd (Heap.lt_size e) (Nat.not_lt.mpr (Nat.le_of_lt (hG.above b z))), Nat.ne_of_lt (Heap.lt_size e)⟩
  have J : L2.Inv X pins σ (layP H1 s2.heap.objs.size as ps) { s2 with heap := h', toks := tk } := by
    refine I2.call' (ch := []) rfl ⟨fun b o q _ _ _ => hk b o q, fun b o q _ _ _ => ⟨o.slots, hk b o q⟩, fun b o q n _ => ?_, fun b o q _ => ⟨o, hk b o q⟩, fun b xs q => kp b _ q, fun b o u q => kp b _ q, fun b ps' q => ⟨#[], by rw [kp b _ q]; simp⟩⟩ (fun b u q => ?_) I2.bare fun b z => by simp at z
    · obtain ⟨z1, z2⟩ := low b o q
      rw [off b z1 z2]
      exact n
    · by_cases hb : b ∈ as
      · obtain ⟨j, ej⟩ := List.mem_iff_getElem?.mp hb
        obtain ⟨hj, f3⟩ := hG.pairs j b ej
        have e2 : ps[j]? = some ps[j] := List.getElem?_eq_getElem (by omega)
        rw [atT j b _ ej e2] at q
        cases q
        obtain ⟨r1, r2⟩ := al j hj _ e2
        exact ⟨by show 2 ≤ sizeLine; decide, [es[j].key, es[j].val], .cons r1 (.cons r2 .nil), ⟨_, f3, rfl, _, rfl⟩⟩
      · by_cases hb2 : b = s2.heap.objs.size
        · rw [hb2] at q ⊢
          rw [eS] at q
          cases q
          refine ⟨by rw [List.length_map]; omega, acc.toList, c, by rw [hacc]; exact vals_of_refs as, ?_⟩
          rw [Array.toArray_toList]
          exact hS
        · rw [off b hb hb2] at q
          exact (I2.hok b u q).stay (fun d v _ y => hk d v y) (fun d y => kp d _ y) fun d xs y => kp d _ y
  exact ⟨.ref _, _, J, rfl, q ps _ _ as ent (fun b u _ e => kp b u e) newS new eS (pair_ix (by omega) fun i b q e1 e2 => atT i b q e1 e2)⟩
end
end K70

/-! K70G: several clauses «except x as n: return ..», calls with keywords alone. -/
namespace K70
open PySem PySem.Spec PyProof.Rows L2
/-- slot i holds n within a suite, and is empty behind it -/
abbrev outOf (i : Nat) (D : Ends) : Ends := { nx := fun τ G => D.nx (τ.set i none) G, rt := D.rt, bk := fun τ G => D.bk (τ.set i none) G, ct := fun τ G => D.ct (τ.set i none) G }
/-- what clauses with a name each wish of an exception -/
def wAll (K : PySem.W.Frag) (i m : Nat) (D : Ends) : List (Value × (Addr → Value → Option Addr → TS)) → WX
  | [] => fun _ _ _ _ => False
  | (c, ts) :: r => fun cls d τ G => ∃ b, PySem.W.exmOne K cls c = some b ∧ (b = true → ∀ a, G a = none → τ.length = m → ts a cls d (outOf i D) (τ.set i (some (.ref a))) G) ∧ (b = false → wAll K i m D r cls d τ G)
inductive AsOk (X : Cx) (n : Str) : List ExceptHandler → List (Value × (Addr → Value → Option Addr → TS)) → Prop
  | nil : AsOk X n [] []
  | cons {x : Str} {c : Value} {ts : Addr → Value → Option Addr → TS} {st : Stmt} {more : List Stmt} {p1 p2 : Pos} {hs : List ExceptHandler} {l : List (Value × (Addr → Value → Option Addr → TS))} (nc : Names X x c)
      (su : ∀ (a : Addr) (oe : Obj) (cls : Value) (d : Option Addr) (pn : List (Addr × Obj)), Zc cls d oe → (∃ vs, oe.data = .fields vs) → PSs (X.suite a ((a, oe) :: pn)) (st :: more) (ts a cls d)) (r : AsOk X n hs l) :
      AsOk X n (.ExceptHandler (some (.Name x p1)) (some n) (st :: more) p2 :: hs) ((c, ts) :: l)
section
variable {X : Cx} {n : Str} {i : Nat} {body : List Stmt} {h1 : ExceptHandler} {hds : List ExceptHandler} {l : List (Value × (Addr → Value → Option Addr → TS))} {pos : Pos} {tb : WX → TS}
theorem ps_try_all (hs : X.stack = X.env :: X.outer) (hf : X.env.frame = some X.env.locals) (hN : X.N.Nodup) (hi : X.N[i]? = some n) (hl : X.env.kindOf n = some .local)
    (hb : ∀ (W : WX) (pn : List (Addr × Obj)) (xe : Value → Shared → Prop), Takes (X.tr pn xe) W → PassesOwn (model X.prog X.w) X.A X.env xe → PSs (X.tr pn xe) body (tb W)) (hh : AsOk X n (h1 :: hds) l) :
    PS X (.Try body (h1 :: hds) [] [] pos) (fun D τ G => tb (wAll X.K i X.N.length D l) D τ G) := by
  refine ⟨fun pq s0 τ0 G0 D J0 h => ?_⟩
  have ok := J0.ok
  have fr : X.A.frames = some (X.env :: X.outer) := hs ▸ ok.frames
  refine wpAny_Try_except (wpAny_mono ((hb (wAll X.K i X.N.length D l) (X.pn ++ pq) _ ?_ PassesOwn.looking).run [] s0 τ0 G0 D (J0.toTry _) h) ?_ fun _ _ z => z)
  · rintro u su ⟨a, B, sJ, pq', τ, G, cls, d, rfl, J', nb, up, sky, na, os, ag, wish⟩
    have J : L2.Inv X pq τ G sJ := J'.ofTry ok
    have sky2 : Sky B (X.env :: X.outer) a (Zc cls d) X.env.locals su.heap := hs ▸ sky
    show wpAny (model X.prog X.w) X.A (noteFrame (.ref a) X.env) _ _ _
    refine Sky.land Zc.steady fr hf sky2 fun g3 fl3 up3 => ?_
    have J3 : L2.Inv X pq τ G { su with heap := g3 } := J.landed nb fl3.1 (up.trans up3) os ag
    obtain ⟨ob3, vs3, at3, z3, d3⟩ := fl3.there
    have nfr : a ∉ frs (X.env :: X.outer) := fun hm => by
      obtain ⟨_, o', e', no⟩ := fl3.2.2.1.mem hm
      rw [at3] at e'
      cases e'
      exact no _ d3
    have nL : a ≠ X.env.locals := fun z => nfr (List.mem_filterMap.mpr ⟨X.env, List.mem_cons_self, by rw [hf, z]⟩)
    have nF : a ∉ X.fs := fun hm => (List.mem_filterMap.mp hm).elim fun e q => nfr (List.mem_filterMap.mpr ⟨e, List.mem_cons_of_mem _ q.1, q.2⟩)
    have S3 := J3.suite at3 d3 na nL nF
    have walk : ∀ {hds' : List ExceptHandler} {l' : List (Value × (Addr → Value → Option Addr → TS))}, AsOk X n hds' l' → wAll X.K i X.N.length D l' cls d τ G → wpAny (model X.prog X.w) X.A (handleBy (.ref a) X.env hds') (SP X pq D) X.xe { su with heap := g3 } := by
      intro hds' l' hk
      induction hk with
      | nil => exact fun w => w.elim
      | @cons x c ts st more p1 p2 hs2 l2 nc put r ih =>
        rintro ⟨b, e1, yes, no⟩
        refine wpAny_handleBy_cons (codeAny_handlers_test ?_) (by intro q; cases q)
        have ty : PySem.W.Looks (model X.prog X.w) g3 (typeOf (.ref a)) cls := fun A Q E s k q => wpAny_typeOf_ref (k _ _ at3) (z3.1.symm ▸ q)
        have lm := PySem.W.exm_one (M := model X.prog X.w) J3.kIn ty e1
        have named : ∀ {Q : Value → Shared → Prop} {E : Value → Shared → Prop}, Q c { su with heap := g3 } → wpAny (model X.prog X.w) (X.A.mark (some (.ref a))) (eval (.Name x p1) X.env) Q E { su with heap := g3 } := fun {Q E} q => by
          rcases nc with ⟨gx, db, m | ⟨m, v, nn⟩⟩
          · exact ld_glob (X := X.suite a ((a, ob3) :: (X.pn ++ pq))) S3 gx m q db
          · exact ld_blt (X := X.suite a ((a, ob3) :: (X.pn ++ pq))) S3 gx m v q nn db
        refine named (lm.here ?_)
        cases b with
        | false =>
          show wpAny _ X.A (handleBy (.ref a) X.env hs2) _ _ _
          exact ih (no rfl)
        | true =>
          refine codeAny_handlers_suite_as (HandSPX.lands_againZ fl3 fun g4 fl4 up4 => ?_)
          have J4 : L2.Inv X pq τ G { su with heap := g4 } := J.landed nb fl4.1 ((up.trans up3).trans up4) os ag
          obtain ⟨ob4, vs4, at4, z4, d4⟩ := fl4.there
          refine store_ok (X := X.suite a ((a, ob4) :: (X.pn ++ pq))) (v := .ref a) (J4.suite at4 d4 na nL nF) hN hi (.inl hl) rfl (fun s5 S5 => ?_) (.inr hl)
          refine wpAny_mono ((put a ob4 cls d (X.pn ++ pq) z4 ⟨_, d4⟩).run [] s5 _ G _ S5 (yes rfl a na J4.len)) (fun f s6 hsp => ?_) fun _ _ z => False.elim z
          have over : ∀ {τ6 : L2.St} {G6 : Hp} {Q : Shared → Prop}, L2.Inv (X.suite a ((a, ob4) :: (X.pn ++ pq))) [] τ6 G6 s6 → (∀ s7, L2.Inv X pq (τ6.set i none) G6 s7 → Q s7) → wpAny (model X.prog X.w) X.A (do bindName X.env n .none; unbindBehindTheSuite X.env n p2) (fun _ s7 => Q s7) X.xe s6 :=
            fun {τ6 G6 Q} S6 hq => gone_ok (S6.unsuite ok) hN hi hl hq
          cases f with
          | ret u =>
            obtain ⟨v6, τ6, G6, S6, r6, q6⟩ := hsp
            exact over S6 fun s7 J7 => ⟨_, _, _, J7, r6, q6⟩
          | next =>
            obtain ⟨τ6, G6, S6, q6⟩ := hsp
            exact over S6 fun s7 J7 => ⟨_, _, J7, q6⟩
          | brk =>
            obtain ⟨τ6, G6, S6, q6⟩ := hsp
            exact over S6 fun s7 J7 => ⟨_, _, J7, q6⟩
          | cont =>
            obtain ⟨τ6, G6, S6, q6⟩ := hsp
            exact over S6 fun s7 J7 => ⟨_, _, J7, q6⟩
    exact walk hh wish
  · intro f s1 hsp
    cases f with
    | ret u =>
      obtain ⟨v, τ, G, J', r, q⟩ := hsp
      exact ⟨v, τ, G, J'.ofTry ok, r, q⟩
    | next =>
      obtain ⟨τ, G, J', q⟩ := hsp
      exact wpAny_execs_nil ⟨τ, G, J'.ofTry ok, q⟩
    | brk =>
      obtain ⟨τ, G, J', q⟩ := hsp
      exact ⟨τ, G, J'.ofTry ok, q⟩
    | cont =>
      obtain ⟨τ, G, J', q⟩ := hsp
      exact ⟨τ, G, J'.ofTry ok, q⟩
end
/-! ### x(b = e1, a = e2), a and b the parameters -/
/-- the def x keeps the promise sp at level k; its two parameters a, b, handed by name in the other order -/
structure ClS (P : Program) (w : World) (K : PySem.W.Frag) (mg : Str → Option Value) (base : Heap) (CX : CXT) (k : Nat) (x a b : Str) (sp : Sp) : Prop where
  ex : ∃ (f : Addr) (fd : FuncData), FnOk P w K mg base CX k f fd [a, b] sp ∧ mg x = some (.ref f) ∧ PySem.W.keepIn K (.ref f) = true ∧ ∀ (s : Shared) (u v : Value), BindsTo s fd ⟨[], [(b, u), (a, v)]⟩ [(a, v), (b, u)]
theorem Df.clS {P : Program} {w : World} {K : PySem.W.Frag} {mg : Str → Option Value} {base : Heap} {x a b : Str} {st : Stmt} {N : List Str} {k : Nat} {sp : Sp} (D : Df K mg x st) (S : FnScope N [a, b] (defScope st)) (hb : BindsBy x st [a, b])
    (hs : ∀ (kV doc pm : Value) (an : Option Addr) (cdv ct u v : Value), bindArgs (PySem.W.fnOf x x (defArgs st) (defBody st) (defScope st) .none kV doc pm an cdv ct) ⟨[], [(b, u), (a, v)]⟩ = pure [(a, v), (b, u)]) (len : ∀ vs H Q E, sp vs H Q E → vs.length = 2)
    (body : ∀ (f : Addr) (cdv : Value) (A : Around) (outer : List Env) (s : Shared) (H : Hp) (vs : List V) (Q : VK) (E : XK), Room k (A.deeper (envOfC x (defScope st) s.heap.objs.size f cdv)) → sp vs H Q E →
      ∃ t, PSs (cxOf (L2.CX P w) P w K mg base N x (defScope st) f cdv A outer s H E) (defBody st) t ∧ t { nx := fun _ H' => Q .non H', rt := Q } (start N vs) H) : Cl P w K mg base (L2.CX P w) (k + 1) x sp ∧ ClS P w K mg base (L2.CX P w) (k + 1) x a b sp := by
  obtain ⟨f, fd, F, g⟩ := D.ex
  have ok := F.ok S len fun cdv A outer s H vs Q E hr h => body f cdv A outer s H vs Q E hr h
  refine ⟨⟨f, fd, _, ok, g, F.kp, F.bindsN hb⟩, ⟨f, fd, ok, g, F.kp, fun s u v => ?_⟩⟩
  obtain ⟨oc, od, dV, kV, doc, pm, an, cdv, ct, osl, rfl, _, _, hD, _⟩ := F.ex
  rcases hD with ⟨_, rfl⟩ | ⟨e, _⟩
  · exact .of_eq (hs kV doc pm an cdv ct u v)
  · exact absurd rfl e
/-- x(b = e1, a = e2) -/
def tS (sp : Sp) (E : XK) (t1 t2 : TE) : TE := fun σ H Q => t1 σ H fun y H1 => t2 σ H1 fun z H2 => sp [z, y] H2 Q E
section
variable {X : Cx} {CX : CXT} {j k : Nat} {x a b : Str} {sp : Sp} {E : XK} {p pos q1 q2 : Pos} {e1 e2 : Expr} {t1 t2 : TE}
theorem pe_s (c : ClS X.prog X.w X.K X.mg X.base CX k x a b sp) (hr : Room j X.A) (hx : Passes CX X E) (h1 : PE X e1 t1) (h2 : PE X e2 t2) (hk : k ≤ j := by first | decide | omega) (hg : Gl X x := by rfl) (db : (x == ("__debug__" : Str)) = false := by decide) :
    PE X (.Call (.Name x p) [] [⟨some b, e1, q1⟩, ⟨some a, e2, q2⟩] pos) (tS sp E t1 t2) := by
  obtain ⟨f, fd, F, gx, kp, bi⟩ := c.ex
  refine ⟨fun pins s σ H Q I h => ?_⟩
  refine wpAny_Call_Name_kw (ld_glob I hg gx ?_ db)
  refine PySem.W.callWith_KW0 (h₀ := X.base) I.ok.mod.kin kp (by rfl) (thn ((pk_cons h1 (pk_cons h2 pk_nil)).run pos pins s σ H (fun zs H1 => ∃ y z, zs = [y, z] ∧ sp [z, y] H1 Q E) I ?_) fun ws s2 ⟨zs, H2, I2, rz, q⟩ => ⟨I2.kIn, ?_⟩) (by rfl)
  · show t1 σ H fun y H1 => t2 σ H1 fun z H2 => ∃ y' z', [y, z] = [y', z'] ∧ sp [z', y'] H2 Q E
    have e : (fun (y : V) (H1 : Hp) => t2 σ H1 fun z H2 => ∃ y' z', [y, z] = [y', z'] ∧ sp [z', y'] H2 Q E) = fun y H1 => t2 σ H1 fun z H2 => sp [z, y] H2 Q E := by
      funext y H1
      congr 1
      funext z H2
      refine propext ⟨fun ⟨y', z', e, q⟩ => ?_, fun q => ⟨y, z, rfl, q⟩⟩
      cases e
      exact q
    rw [e]
    exact h
  · obtain ⟨y, z, rfl, hq⟩ := q
    cases rz with
    | cons r1 rz =>
      cases rz with
      | cons r2 rz =>
        cases rz
        refine wpAny_call (codeAny_mono (F.run X.A X.stack s2 H2 _ [_, _] [z, y] Q E (hr.mono hk) I2.env0 (bi s2 _ _) (.cons r2 (.cons r1 .nil)) hq) fun r s' hc => ?_)
        cases r with
        | error e => exact hx pins σ H2 s2 e s' I2 hc
        | ok fl =>
          cases fl with
          | ret u => exact I2.after hc
          | next => exact False.elim hc
          | brk => exact False.elim hc
          | cont => exact False.elim hc
end
end K70

/-! K70I: a pair turned round by [::-1]; a call with two keywords in the other order. -/
namespace K70
open PySem PySem.Spec PyProof.Rows L2
section
variable {prog : Program} {w : World} {A : Around} {E : Value → Shared → Prop} {s : Shared}
theorem back_places {sl : Addr} {t : Tok} {Q : Int × Int × Nat → Shared → Prop} (hs : s.heap.IsSliceOf sl .none .none (.int (-1) t)) (q : Q (1, -1, 2) s) : wpAny (model prog w) A (Builtin.Slice.sliceApplied (.ref sl) (pure (2 : Int))) Q E s := by
  obtain ⟨os, hos, _, hds⟩ := hs
  unfold Builtin.Slice.sliceApplied Builtin.Slice.sliceFields
  refine wpAny_bind (wpAny_bind (wpAny_field hos hds (x := .none) rfl (wpAny_bind (wpAny_field hos hds (x := .none) rfl (wpAny_bind (wpAny_field hos hds (x := .int (-1) t) rfl (wpAny_pure ?_)))))))
  refine wpAny_bind (HT.slicePart_ (.int (-1) t) ?_)
  show wpAny _ _ (if ((-1 : Int) == 0) = true then _ else _) _ _ s
  rw [if_neg (by decide)]
  refine wpAny_bind (HT.slicePart_ .none (wpAny_bind (HT.slicePart_ .none (wpAny_bind (wpAny_pure ?_)))))
  exact wpAny_pure q
theorem pair_back {t sl : Addr} {u v : Value} {tk : Tok} {Q : Value → Shared → Prop} (ht : IsTup s.heap t #[u, v]) (hs : s.heap.IsSliceOf sl .none .none (.int (-1) tk))
    (q : Q (.ref s.heap.objs.size) { s with heap := s.heap.push { cls := .type "tuple", data := .seq #[v, u] } }) : wpAny (model prog w) A (getItem (.ref t) (.ref sl)) Q E s := by
  obtain ⟨os, hos, hcs, _⟩ := id hs
  have ty : s.TypeIs (.ref sl) "slice" := ⟨os, hos, hcs⟩
  have fits : sizeOk (.seq #[v, u]) := by
    show (2 : Nat) ≤ sizeLine
    decide
  unfold getItem
  try with_reducible refine wpAny_holding ?_
  first | refine wpAny_bind (wpAny_pure ?_) | skip
  refine wpAny_bind (wpAny_sequenceKey ht.typeIs (by decide) ?_)
  refine wpAny_bind (wpAny_callSpecial?_slot (name := Str.ofString "__getitem__") ht.typeIs PyProof.Rows.slot_tuple_getitem (wpAny_call_entry PyProof.Rows.slot_tuple_getitem ht.typeIs entry_tuple_getitem ?_ (args_tuple_getitem _ _)))
  show wpAny _ _ (Builtin.Tuple.tupleItemsOf (.ref t) >>= _) _ _ s
  refine wpAny_bind (tupleItemsOf_ ht (wpAny_bind (wpAny_typeOf ty ?_)))
  rw [if_pos (by decide)]
  refine wpAny_bind (back_places hs ?_)
  show wpAny _ _ (if ((1 : Int) == 0 && (-1 : Int) == 1 && (2 : Nat) == 2) = true then _ else _) _ _ s
  rw [if_neg (by decide)]
  first
    | exact wpAny_bind (m := Builtin.Tuple.tupleExact _) (wpAny_newObj_type (wpAny_pure ⟨_, rfl, wpAny_pure q⟩) fits)
    | exact wpAny_bind (m := Builtin.Tuple.tupleExact _) (wpAny_newObj_type (wpAny_bind (wpAny_pure (wpAny_pure ⟨_, rfl, wpAny_pure q⟩))) fits)
    | exact wpAny_bind (wpAny_bind (m := Builtin.Tuple.tupleExact _) (wpAny_newObj_type (wpAny_pure (wpAny_pure ⟨_, rfl, wpAny_pure q⟩)) fits))
    | exact wpAny_bind (wpAny_bind (m := Builtin.Tuple.tupleExact _) (wpAny_newObj_type (wpAny_pure ⟨_, rfl, wpAny_pure q⟩) fits))
end
/-- (x, y)[::-1] -/
def tBack (K : PySem.W.Frag) (te : TE) : TE := fun σ H Q => te σ H fun v H1 => ∃ a x y, v = .ref a ∧ SqT K H1 a [x, y] ∧ ∀ p, H1 p = none → Q (.ref p) (upd H1 p (.tup [y, x]))
theorem pe_back {X : Cx} {e : Expr} {te : TE} {k : Nat} {p1 p2 p3 pos : Pos} (he : PE X e te) : PE X (.Subscript e (.Slice none none (some (.UnaryOp .USub (.Constant (.int 1) k p1) p2)) p3) pos) (tBack X.K te) := by
  refine ⟨fun pins s σ H Q I h => ?_⟩
  refine Subscript_ (thn (he.run pins s σ H _ I h) fun v1 s1 ⟨v2, H1, I1, r1, a, x, y, ev, hx, q⟩ => ?_)
  subst ev
  cases r1
  have st : PO X (some (.UnaryOp .USub (.Constant (.int 1) k p1) p2)) (tPart (tUn (rU fun i => .int (-i)) (tC (.int 1)))) := po_some (pe_un un_neg pe_int)
  refine wpAny_Slice ?_
  show wpAny _ _ (pure Value.none) _ _ _
  refine wpAny_pure ?_
  show wpAny _ _ (pure Value.none) _ _ _
  refine wpAny_pure (thn (st.run pins s1 σ H1 (fun o H2 => o = some (-1) ∧ H2 = H1) I1 ⟨1, rfl, -1, rfl, rfl, rfl⟩) fun vs s2 ⟨o, H2, I2, ps, eo, e2⟩ => ?_)
  subst eo e2
  cases ps with
  | int i t =>
    have I3 : L2.Inv X pins σ H2 { s2 with heap := s2.heap.push { cls := .type "slice", data := .fields #[.none, .none, .int (-1) t] } } := I2.kept (t' := s2.toks) fun b ob q => Heap.get?_push_of_some _ q
    obtain ⟨its, r, ht, _⟩ := I3.tuple hx
    cases r with
    | cons r1 r =>
      cases r with
      | cons r2 r =>
        cases r
        refine tail_any (ops := [.ref a, .ref s2.heap.objs.size]) ht.typeIs PyProof.Rows.slot_tuple_getitem.lookup ?_ (by with_unfolding_all rfl)
        refine pair_back ht (Heap.IsSliceOf.new _ _ _ _) ?_
        refine ⟨.ref _, _, I3.laid (t' := s2.toks) (o := .tup [y, x]) (fun b ob q => Heap.get?_push_of_some _ q) (Nat.le_refl _) ?_, rfl, q _ (I3.hok.fresh (Nat.le_refl _))⟩
        exact ⟨by show 2 ≤ sizeLine; decide, _, .cons r2 (.cons r1 .nil), IsTup.new _ _⟩
end K70

/-! K70J: an own exception whose __init__ says super().__init__(f) and self.f = f, made. -/
namespace K70
open PySem PySem.Spec PyProof.Rows L2
abbrev supPs (f : PySem.Str) (q1 q2 : Pos) : Arguments := { posonlyargs := [], args := [⟨"self", none, q1⟩, ⟨f, none, q2⟩], vararg := none, kwonlyargs := [], kw_defaults := [], kwarg := none, defaults := [] }
abbrev supBd (f : PySem.Str) (q : Fin 10 → Pos) : List Stmt := [.Expr (.Call (.Attribute (.Call (.Name "super" (q 0)) [] [] (q 1)) "__init__" (q 2)) [.Name f (q 3)] [] (q 4)) (q 5), .Assign [.Attribute (.Name "self" (q 6)) f (q 7)] (.Name f (q 8)) (q 9)]
abbrev supBnd (f : PySem.Str) : Prop := ∀ (qual : PySem.Str) (q1 q2 : Pos) (body : List Stmt) (scope : Scope) (kV doc pm : Value) (an : Option Addr) (cdv ct : Value) (cc : Addr) (a b : Value), bindArgs (PySem.W.ksFn "__init__" qual (supPs f q1 q2) body scope .none kV doc pm an cdv ct cc) ⟨[a, b], []⟩ = pure [(("self" : PySem.Str), a), (f, b)]
theorem sup_thing : supBnd "thing" := fun _ _ _ _ _ _ _ _ _ _ _ _ _ _ => rfl
theorem sup_begun : supBnd "begun" := fun _ _ _ _ _ _ _ _ _ _ _ _ _ _ => rfl
/-- such a class at C, its field f -/
structure SupC (P : Program) (K : PySem.W.Frag) (mg : Str → Option Value) (C : Addr) (f : PySem.Str) : Prop where
  T : OexC K C
  new : PySem.W.excInitIn K C [.type "ValueError", .type "Exception", .type "BaseException", .type "object"] "ValueError.__new__" = true
  f0 : PySem.W.findIn K (.ref C) f = some none
  self : PySem.W.mroIn K C (.ref C) = some true
  sub : PySem.W.subIn K (.ref C) (.type "ValueError") = some true
  sup : PySem.W.ks_superIn K C C "__init__" = some (some (.builtin "ValueError.__init__"))
  third : PySem.W.nsIn K cStatics "thirdparty.any" = some none
  gs : mg "super" = none
  top : (P.main.scope.names.lookup ("super" : PySem.Str)).isSome = false
  bnd : supBnd f
  ne : f ≠ ("self" : PySem.Str)
  db : (f == ("__debug__" : PySem.Str)) = false
  ini : ∃ (fI cc cda : Addr) (oc : Value) (od : Option Addr) (osl : Array (Option Value)) (qual : PySem.Str) (q1 q2 : Pos) (q : Fin 10 → Pos) (scope : Scope) (kV doc pm : Value) (an : Option Addr) (ct : Value),
    PySem.W.findIn K (.ref C) "__init__" = some (some (.ref fI)) ∧ PySem.W.typeIn K (.ref fI) = some (.type "function") ∧ K.lookup fI = some ⟨oc, od, .func (PySem.W.ksFn "__init__" qual (supPs f q1 q2) (supBd f q) scope .none kV doc pm an (.ref cda) ct cc), osl⟩ ∧
    PySem.W.codeIn K (.ref cda) qual = true ∧ (∃ (cl : Value) (cd : Option Addr) (vs : Array Value) (cs : Array (Option Value)) (file : PySem.Str) (tf : Tok), K.lookup cda = some ⟨cl, cd, .fields vs, cs⟩ ∧ vs[2]? = some (.str file tf) ∧ ((P.main.file : PySem.Str) == file) = true) ∧
    (∃ (cl : Value) (cd : Option Addr) (cs : Array (Option Value)), K.lookup cc = some ⟨cl, cd, .cell (some (.ref C)), cs⟩) ∧ (∀ y ∈ scope.names, y.2 ≠ .cell) ∧ scope.isCoroutine = false ∧ scope.isGenerator = false ∧ scope.kind = .function ∧
    ((q 2).endLine == (q 4).line) = true ∧ scope.names.lookup ("self" : PySem.Str) = some .local ∧ scope.names.lookup f = some .local ∧ scope.names.lookup ("super" : PySem.Str) = some .globalImplicit ∧ scope.names.lookup ("__class__" : PySem.Str) = some .free
section
variable {P : Program} {w : World} {K : PySem.W.Frag} {mg : Str → Option Value} {base : Heap} {C : Addr} {f : PySem.Str}
open PySem.W in
/-- its __init__, run -/
theorem sup_run (S : SupC P K mg C f) (M : Mod K mg base) {A : Around} {fI e t0 : Addr} {hp h1 : Heap} {g : Array GenState} {d : Drawn} {t : Nat} {os : OsState} {u : Value} {R : Result → Shared → Prop} (hf : findIn K (.ref C) "__init__" = some (some (.ref fI)))
    (kb : ∀ b o, base.get? b = some o → hp.get? b = some o) (k1 : ∀ b o, hp.get? b = some o → h1.get? b = some o) (ne : hp.get? e = none) (he : h1.get? e = some (excObj C t0 none .none)) (lt : hp.objs.size ≤ h1.objs.size) (dp : A.depth < recursionLimit)
    (hq : ∀ h' tk' dx t1, (∀ b o, hp.get? b = some o → h'.get? b = some o) → hp.objs.size ≤ dx → dx ≠ e → h'.get? e = some (excObj C t1 (some dx) .none) → h'.Ns1 dx (fun y => if y = f then some u else none) → R (.ok (.ret .none)) ⟨h', g, d, tk', os⟩) :
    codeAny (model P w) A (.call (.ref fI) ⟨[.ref e, u], []⟩) R ⟨h1, g, d, t, os⟩ := by
  obtain ⟨fI', cc, cda, oc, od, osl, qual, q1, q2, q, scope, kV, doc, pm, an, ct, i1, i2, i3, i4, ⟨cl, cd, vs, cs, file, tf, c1, c2, c3⟩, ⟨cl', cd', cs', c4⟩, i5, i6, i7, i8, i9, n1, n2, n3, n4⟩ := S.ini
  rw [hf] at i1
  cases i1
  have KH : K.In hp := M.kin.keeps kb
  have K1 : K.In h1 := KH.keeps k1
  have bk1 : ∀ b o, base.get? b = some o → h1.get? b = some o := fun b o x => k1 b o (kb b o x)
  obtain ⟨nm, qn, N, bs, bm, sn, sub, ab, col, dd, k0, k1', k2, k3, k5, hC, hbm⟩ := S.T.cls
  have hcl : clsIn K C = some { name := nm, bases := bs, mro := .ref C :: bm, ns := N, qualname := qn, hasDict := true, slotNames := sn, subclasses := sub, abstract := ab, collection := col, hasDel := false } := by unfold clsIn; rw [hC] <;> rfl
  refine ks_codeAny_call_defAt (fd := ksFn "__init__" qual (supPs f q1 q2) (supBd f q) scope .none kV doc pm an (.ref cda) ct cc) (body := supBd f q) (binds := [(("self" : PySem.Str), .ref e), (f, u)]) dp (K1 _ _ i3) rfl (M.nolimit.keeps bk1) (codeRec_of K1 i4) rfl (.of_eq (S.bnd ..)) i5 ?_ ?_ i6 i7 i8
  · intro y hy
    rcases List.mem_cons.mp hy with rfl | hy
    · exact n1
    · rw [List.mem_singleton.mp hy]
      exact n2
  intro h2 hns kk
  have mself : ([(("self" : PySem.Str), Value.ref e), (f, u)].reverse).lookup ("self" : PySem.Str) = some (.ref e) := by
    have z : (("self" : PySem.Str) == f) = false := by
      rw [beq_eq_false_iff_ne]
      exact fun z => S.ne z.symm
    simp [List.lookup, z]
  have mf : ([(("self" : PySem.Str), Value.ref e), (f, u)].reverse).lookup f = some u := by simp [List.lookup]
  have F2 : Fr hp h1.objs.size h2 (fun x => ([(("self" : PySem.Str), Value.ref e), (f, u)].reverse).lookup x) := ⟨hns, fun b o x => kk b o (k1 b o x), lt⟩
  have N2 : News hp h1.objs.size h2 [(e, excObj C t0 none .none)] := fun p hp' => by
    rw [List.mem_singleton.mp hp']
    exact ⟨kk _ _ he, Nat.ne_of_lt (Heap.lt_size he), ne⟩
  have hin : interactive (callEnv (ksFn "__init__" qual (supPs f q1 q2) (supBd f q) scope .none kV doc pm an (.ref cda) ct cc) h1.objs.size fI) = false := by
    unfold interactive
    show (scope.kind == .module && _) = false
    rw [i8]
    rfl
  have hev : ∃ pl, eval (.Call (.Attribute (.Call (.Name "super" (q 0)) [] [] (q 1)) "__init__" (q 2)) [.Name f (q 3)] [] (q 4)) (callEnv (ksFn "__init__" qual (supPs f q1 q2) (supBd f q) scope .none kV doc pm an (.ref cda) ct cc) h1.objs.size fI) = (do
      let ov ← attributeBase (.Call (.Name "super" (q 0)) [] [] (q 1)) "__init__" (callEnv (ksFn "__init__" qual (supPs f q1 q2) (supBd f q) scope .none kV doc pm an (.ref cda) ct cc) h1.objs.size fI) (eval (.Call (.Name "super" (q 0)) [] [] (q 1)) (callEnv (ksFn "__init__" qual (supPs f q1 q2) (supBd f q) scope .none kV doc pm an (.ref cda) ct cc) h1.objs.size fI))
      standAt (q 2).atName
      let (g, first) ← holding [ov] (getMethod ov "__init__" pl)
      callWith (q 4) g first (backTo (q 4) (starEach [.Name f (q 3)] (callEnv (ksFn "__init__" qual (supPs f q1 q2) (supBd f q) scope .none kV doc pm an (.ref cda) ct cc) h1.objs.size fI))) []) := by
    refine ⟨(do return (← importBound (.Call (.Name "super" (q 0)) [] [] (q 1)) (callEnv (ksFn "__init__" qual (supPs f q1 q2) (supBd f q) scope .none kV doc pm an (.ref cda) ct cc) h1.objs.size fI)).getD true), ?_⟩
    rw [arm_eval_Call]
    have hpos : methodCallPos true (.Call (.Name "super" (q 0)) [] [] (q 1)) (callEnv (ksFn "__init__" qual (supPs f q1 q2) (supBd f q) scope .none kV doc pm an (.ref cda) ct cc) h1.objs.size fI) (q 2) (q 4) = pure (q 4) := by
      unfold methodCallPos
      simp [i9]
    unfold methodCall
    have hfm : ∀ l, methodCallForm 1 (backTo (q 4) [(false, l)]) [] = true := fun _ => rfl
    show (attributeBase _ _ _ _ >>= fun ov => standAt _ >>= fun _ => (holding [ov] (calleeOf true _ _ ov _) >>= fun gf => methodCallPos true _ _ _ _ >>= fun cp => callWith cp gf.1 gf.2 _ _)) = _
    simp only [hpos, pure_bind]
    rfl
  obtain ⟨pl, hev⟩ := hev
  have hns := hns
  refine ks_wpAt_execs_cons (ks_wpAt_Expr_any (ks_wpAt_MethodCall (pl := pl) ?_ hev) hin)
  have I2 : InstAt h2 e (excObj C t0 none .none) C none := ⟨kk _ _ he, rfl, rfl, trivial⟩
  have bk2 : ∀ b o, base.get? b = some o → h2.get? b = some o := fun b o x => kk b o (bk1 b o x)
  have K2 : K.In h2 := K1.keeps kk
  obtain ⟨mb, hmb, hbt⟩ := M.blt
  refine ks_wpAt_super_base (body := supBd f q) (ar := ⟨"self", none, q1⟩) n3 n4 (by decide) rfl (K2 _ _ i3) rfl rfl rfl (K2 _ _ c1) rfl c2 c3 S.top ?_
  refine ks_loadName_global i8 n3 (Calls.loadGlobal_builtin (M.glob.keeps bk2) S.gs (hmb.keeps bk2) ((hbt _ (by decide)).trans (by decide +kernel)) ⟨rfl, ?_⟩)
  refine wpAny_loadName_free i8 n4 rfl ⟨_, K2 _ _ c4, rfl⟩ ?_
  refine wpAny_loadName_local i8 n1 hns mself ?_
  refine ks_wpAny_isType_cls (K2 _ _ hC) rfl ⟨rfl, ?_⟩
  refine ks_wpAny_call_super (K2 _ _ hC) rfl I2.at_ rfl (fun c z => by cases z) (looks_mroIn K2 S.self) fun h3 e3 k3 => ?_
  obtain ⟨F3, N3, l3⟩ := ks_newsPush (s := ⟨h2, g, d, t + 2, os⟩) F2 N2 rfl e3 k3
  -- the bound __init__
  refine kxs_method (s := ⟨h3, g, d, t + 2, os⟩) kxs_ValueError F3 KH N3 (List.mem_cons_self ..) (.of_exc0 N3 (List.mem_cons_of_mem _ (List.mem_cons_self ..))) S.third S.sup S.sub (by decide) fun m4 h4 F4 N4 l4 => ?_
  refine kxs_callWith1 N4 (List.mem_cons_self ..) ?_
  show wpAny _ _ (spliced ((false, eval (.Name f (q 3)) _) :: backTo (q 4) (starEach [] _))) _ _ _
  refine Calls.spliced_cons (wpAny_Name (wpAny_loadName_local i8 n2 F4.ns mf ?_) S.db)
  refine Calls.spliced_nil ⟨kxs_at N4 (List.mem_cons_self ..), ?_⟩
  have ltE : e < h2.objs.size := Heap.lt_size (kk _ _ he)
  have ne4 : m4 ≠ e := Nat.ne_of_gt (l4 (e, excObj C t0 none .none) (List.mem_cons_of_mem _ (List.mem_cons_self ..)))
  refine kxs_call (dv := none) (c2 := .none) F4 KH N4 PySem.F.excBase_ValueError S.new (List.mem_cons_self ..) (.tail ne4 (.tail (Nat.ne_of_gt ltE) (.head fun p hp' => absurd hp' (by simp)))) (by show 1 ≤ sizeLine; decide) fun t5 h5 F5 N5 l5 => ?_
  -- self.f = f
  show PySem.wpAt _ _ _ (execs (.Assign [.Attribute (.Name "self" (q 6)) f (q 7)] (.Name f (q 8)) (q 9) :: []) _) _ _ _
  refine wpAt_of_wpAny (wpAny_execs_cons ?_)
  refine plainObj_wpAny_Assign_Attribute (wpAny_Name (wpAny_loadName_local i8 n2 F5.ns mf (wpAny_Name (wpAny_loadName_local i8 n1 F5.ns mself ?_) (by decide))) S.db) (by rfl)
  have K5 : K.In h5 := KH.keeps F5.keep
  have e5 : h5.get? e = some (excObj C t5 none .none) := (N5 _ (List.mem_cons_of_mem _ (List.mem_cons_of_mem _ (List.mem_cons_of_mem _ (List.mem_cons_self ..))))).1
  refine set_plain K5 (ox := excObj C t5 none .none) (od := none) ⟨e5, rfl, rfl, trivial⟩ S.T.sa ?_
  refine HandSPX.exc_osa K5 e5 hcl (show HandSPX.refsVE (.ref C :: bm) = true from hbm) rfl S.f0 fun h6 tk6 dx k6 d1 d2 e6 a6 => ?_
  refine wpAny_execs_nil ?_
  refine hq h6 tk6 dx t5 (fun b o x => k6 b o (fun z => by rw [z, ne] at x; cases x) (F5.keep b o x)) ?_ d2 e6 a6
  refine Nat.le_trans ?_ d1
  obtain ⟨oL, _, _, hL, _⟩ := F5.ns
  exact Nat.le_trans lt (Nat.le_of_lt (Heap.lt_size hL))
/-! ### C(e) -/
/-- a new exception of the class at C, its field f the argument -/
def tSup (C : Addr) (f : PySem.Str) (te : TE) : L2.St → Hp → XK → Prop := fun σ H Q => te σ H fun v H1 => ∀ d, H1 d = none → Q (.ref C) (some d) (upd H1 d (.xd [(f, v)]))
theorem pmk_sup {X : Cx} {C : Addr} {f x : PySem.Str} {e : Expr} {te : TE} {p pos : Pos} (S : SupC X.prog X.K X.mg C f) (hr : Room 2 X.A) (he : PE X e te) (hm : X.mg x = some (.ref C)) (hg : Gl X x := by rfl) (hdb : (x == ("__debug__" : Str)) = false := by decide)
    (hs : starEach [e] X.env = (false, eval e X.env) :: starEach [] X.env := by rfl) : PMk X (.Call (.Name x p) [e] [] pos) (tSup C f te) := by
  intro pins s σ H Q I h
  obtain ⟨nm, q, N, bs, bm, sn, sub, ab, col, dd, k0, k1, k2, k3, k5, hC, hbm⟩ := S.T.cls
  obtain ⟨fI, cc, cda, oc, od, osl, qual, q1, q2, qq, scope, kV, doc, pm, an, ct, i1, i2, _⟩ := S.ini
  refine wpAny_Call_Name_kw (ld_glob I hg hm ?_ hdb)
  refine PySem.W.callWith_K (h₀ := X.base) I.ok.mod.kin S.T.kC (thn ((pa_cons he pa_nil hs).run pos pins s σ H (fun vs H1 => ∃ v, vs = [v] ∧ ∀ d, H1 d = none → Q (.ref C) (some d) (upd H1 d (.xd [(f, v)]))) I ?_) fun us s1 ⟨vs, H1, I1, r1, v, ev, q1⟩ => ⟨I1.kIn, ?_⟩) hs rfl
  · have e1 : (fun v H1 => ∃ v', [v] = [v'] ∧ ∀ d, H1 d = none → Q (.ref C) (some d) (upd H1 d (.xd [(f, v')]))) = fun (v : V) (H1 : Hp) => ∀ d, H1 d = none → Q (.ref C) (some d) (upd H1 d (.xd [(f, v)])) := by
      funext v H1
      refine propext ⟨fun ⟨v', e, q⟩ => ?_, fun q => ⟨v, rfl, q⟩⟩
      cases e
      exact q
    show te σ H fun v H1 => ∃ v', [v] = [v'] ∧ ∀ d, H1 d = none → Q (.ref C) (some d) (upd H1 d (.xd [(f, v')]))
    rw [e1]
    exact h
  subst ev
  cases r1 with
  | @cons _ u _ us' rv rr =>
    cases rr
    show wpAny _ _ (call (.ref C) [u]) _ _ _
    obtain ⟨hp, g, dr, tk, os⟩ := s1
    have ge : ((hp.push (PySem.W.kdv_tup [u])).push (PySem.HandSPX.excO C hp.objs.size)).get? (hp.objs.size + 1) = some (PySem.HandSPX.excO C hp.objs.size) := by heap_get
    have ke : ∀ b o, hp.get? b = some o → ((hp.push (PySem.W.kdv_tup [u])).push (PySem.HandSPX.excO C hp.objs.size)).get? b = some o := fun b o e => Heap.get?_push_of_some _ (Heap.get?_push_of_some _ e)
    have ne : hp.get? (hp.objs.size + 1) = none := by
      cases z : hp.get? (hp.objs.size + 1) with
      | none => rfl
      | some o => exact absurd (Heap.lt_size z) (Nat.not_lt.mpr (Nat.le_succ _))
    refine wpAny_call (PySem.HandSPX.call_own F.excBase_ValueError (fun Y => PySem.HandSPX.refsVE_contains Y bm hbm) (I1.kIn _ _ hC) (PySem.W.looks_findIn I1.kIn i1) (fun self => PySem.W.bind_fn I1.kIn self i2) (by show 1 ≤ sizeLine; decide) ?_)
    refine sup_run S I1.ok.mod i1 I1.bk ke ne ge (by show hp.objs.size ≤ _; rw [Heap.size_push, Heap.size_push]; omega) ((hr.make C [u] []).depth) fun h' tk' dx t1 k' d1 d2 e' ns => ?_
    refine ⟨rfl, ?_⟩
    -- what is left of it
    obtain ⟨G, g1, g2⟩ := restrict h' fun b => decide (b ≠ hp.objs.size + 1)
    have gk : ∀ b, b ≠ hp.objs.size + 1 → G.get? b = h'.get? b := fun b hb => g1 b (decide_eq_true hb)
    have gn : G.get? (hp.objs.size + 1) = none := g2 _ (by simp)
    have kG : ∀ b o, hp.get? b = some o → G.get? b = some o := fun b o z => (gk b (fun y => by rw [y, ne] at z; cases z)).trans (k' b o z)
    have J : L2.Inv X pins σ (upd H1 dx (.xd [(f, v)])) ⟨G, g, dr, tk', os⟩ := by
      refine I1.laid (t' := tk') (a := dx) (o := .xd [(f, v)]) (h' := G) kG d1 ⟨_, ns.at fun o y => (gk dx d2).trans y, fun g' => ?_⟩
      exact relO_put (fs := []) (mA := fun _ => none) rv (fun _ => True.intro) g'
    have na : upd H1 dx (.xd [(f, v)]) (hp.objs.size + 1) = none := by
      rw [upd_ne (Ne.symm d2)]
      exact I1.hok.fresh (Nat.le_succ _)
    exact ⟨_, _, _, ⟨G, g, dr, tk', os⟩, _, .ref C, some dx, rfl, J, fun b o z => by
      by_cases y : b = hp.objs.size + 1
      · rw [y, gn] at z
        cases z
      · exact (gk b y).symm.trans z, gn, e', ⟨rfl, rfl⟩, rfl, rfl, na, rfl, I1.bare, raises_own S.T.exC S.T.tyC, q1 dx (I1.hok.fresh d1)⟩
end
end K70

/-! K70K: dict(pairs) with tuple keys. -/
namespace K70
open PySem PySem.Spec PyProof.Rows L2
/-- pairs put in, one behind the other -/
def merA {κ : Type} [DecidableEq κ] (acc more : List (κ × V)) : List (κ × V) := more.foldl (fun a kv => putK a kv.1 kv.2) acc
theorem merA_len {κ : Type} [DecidableEq κ] : ∀ (more acc : List (κ × V)), (merA acc more).length ≤ acc.length + more.length
  | [], acc => Nat.le_refl _
  | p :: r, acc => by
    have h1 := merA_len r (putK acc p.1 p.2)
    have h2 := length_putK acc p.1 p.2
    show (merA (putK acc p.1 p.2) r).length ≤ _
    rw [List.length_cons]
    omega
theorem kt_merge {H : Hp} : ∀ {more : List (List Key × V)} {ys : List (List Key × Addr × Value)} {acc : List (List Key × V)} {xs : List (List Key × Addr × Value)}, KT H more ys → KT H acc xs → KT H (merA acc more) (storedAllH xs ys)
  | _, _, _, _, .nil, h => h
  | _, _, _, _, .cons (a := p) (b := y) r t, h => by
    obtain ⟨e1, e2, e3⟩ := r
    have z := h.put p.1 (b := y.2.1) (y := p.2) (u := y.2.2) e2 e3
    show KT H (merA (putK _ p.1 p.2) _) (storedAllH (storedH _ y.1 y.2.1 y.2.2) _)
    rw [← e1]
    exact kt_merge t z
section
variable {X : Cx}
theorem pairsT_of {pins : List (Addr × Obj)} {σ : L2.St} {H : Hp} {s : Shared} (I : L2.Inv X pins σ H s) : ∀ {ps : List Addr} {kvs : List (List Key × V)}, Paired (fun p (kv : List Key × V) => ∃ q, SqT X.K H p [.ref q, kv.2] ∧ H q = some (.tup (kv.1.map kV))) ps kvs →
    ∃ xs : List (List Key × Addr × Value), KT H kvs xs ∧ xs.length = ps.length ∧ ∀ (j : Nat) (x : List Key × Addr × Value), xs[j]? = some x → ∃ b, ps[j]? = some b ∧ IsTup s.heap b #[.ref x.2.1, x.2.2]
  | _, _, .nil => ⟨[], .nil, rfl, fun j x e => by simp at e⟩
  | _, _, .cons (a := p) (b := kv) ⟨q, h1, h2⟩ t => by
    obtain ⟨xs, r, hl, al⟩ := pairsT_of I t
    obtain ⟨its, rv, ht, _⟩ := I.tuple h1
    cases rv with
    | cons r1 rv =>
      cases rv with
      | cons r2 rv =>
        cases rv
        cases r1
        refine ⟨(kv.1, q, _) :: xs, .cons ⟨rfl, h2, r2⟩ r, by rw [List.length_cons, List.length_cons, hl], fun j x e => ?_⟩
        cases j with
        | zero =>
          cases e
          exact ⟨p, rfl, ht⟩
        | succ j => exact (al j x (by simpa using e)).elim fun b z => ⟨b, by simpa using z.1, z.2⟩
theorem call_dictPT (hc : X.calm = true) (hu : X.A.units + 8 < cLine) : CallR X (.type "dict") (fun xs H Q => ∃ (a : Addr) (ps : List Addr) (kvs : List (List Key × V)), xs = [.ref a] ∧ SqL X.K H a (ps.map V.ref) ∧
    Paired (fun p (kv : List Key × V) => ∃ q, SqT X.K H p [.ref q, kv.2] ∧ H q = some (.tup (kv.1.map kV))) ps kvs ∧ ∀ p, H p = none → Q (.ref p) (upd H p (.dT (merA [] kvs)))) := by
  intro pins s σ H xs us Q I r q
  obtain ⟨a, ps, kvs, rfl, hq, hp, q⟩ := q
  cases r with
  | cons r1 rr =>
    cases rr
    cases r1
    obtain ⟨its, rv, pl, hz⟩ := I.list hq
    obtain rfl := refs_at rv
    rw [List.length_map] at hz
    obtain ⟨o, n, ho, hcl, hd, hdat⟩ := pl
    obtain ⟨xs, kt, hl, al⟩ := pairsT_of I hp
    have nk : kvs.length = xs.length := Paired.length kt
    have big : (s.heap.objs.size == sysModules) = false := beq_eq_false_iff_ne.mpr (Nat.ne_of_gt I.big)
    have kept : ∀ h', (∀ b o, s.heap.get? b = some o → h'.get? b = some o) → ∀ x ∈ xs, (tupleKind (mixKind X.prog X.w)).is h' x.1 x.2.1 := fun h' k x hx => by
      obtain ⟨j, ej⟩ := List.mem_iff_getElem?.mp hx
      have lt : j < kvs.length := by
        have := (List.getElem?_eq_some_iff.mp ej).1
        omega
      have z := pair_at kt (List.getElem?_eq_getElem lt) ej
      have y := key_of I.hok z.2.1
      rw [z.1] at y
      exact (tupleKind_stays (knd := mixKind X.prog X.w)).all h' (fun b o _ e => k b o e) _ _ y
    have items : PairItems s.heap (ps.map Value.ref).toArray (fun j => ps.getD j 0) (xs.map fun x => (Value.ref x.2.1, x.2.2)) := by
      refine ⟨by simp [hl], fun j k v e => ?_⟩
      rw [List.getElem?_map] at e
      cases ex : xs[j]? with
      | none => rw [ex] at e; cases e
      | some x =>
        rw [ex] at e
        cases e
        obtain ⟨b, e1, e2⟩ := al j x ex
        refine ⟨by simp [e1], ?_⟩
        have e3 : ps.getD j 0 = b := by rw [List.getD_eq_getElem?_getD, e1] <;> rfl
        show PairAt s.heap (ps.getD j 0) _ _
        rw [e3]
        exact .inl e2
    refine call_dict_pairsH (knd := tupleKind (mixKind X.prog X.w)) (ps := xs) (PairArg.list a (ps.map Value.ref).toArray (fun j => ps.getD j 0) (xs.map fun x => (Value.ref x.2.1, x.2.2))) (I.ok.hd hc) (by show X.A.units + 2 < cLine; omega) ⟨⟨o, n, ho, hcl, hd, hdat⟩, items⟩ ⟨by simp, fun i key v e => ?_⟩
      (fun h' k => kept h' fun b o e => k b o (Nat.ne_of_lt (Heap.lt_size e)) (by simp) e) (by rw [List.length_map]; omega) fun h' tk hd' k => ?_
    · have e : (xs.map fun x => (Value.ref x.2.1, x.2.2))[i]? = some (key, v) := e
      rw [List.getElem?_map] at e
      cases ex : xs[i]? with
      | none => rw [ex] at e; cases e
      | some x =>
        rw [ex] at e
        cases e
        exact ⟨x.1, x.2.1, rfl, rfl⟩
    · have kk : ∀ b o, s.heap.get? b = some o → h'.get? b = some o := fun b o e => k b o (by simp) e
      have fr : H s.heap.objs.size = none := I.hok.fresh (Nat.le_refl _)
      have len : (merA [] kvs).length ≤ sizeLine := Nat.le_trans (merA_len kvs []) (by rw [List.length_nil]; omega)
      obtain ⟨ob, en, ep, g1, g2, g3, g4, _, g5⟩ := hd'
      refine ⟨.ref s.heap.objs.size, _, I.laid (t' := tk) kk (Nat.le_refl _) (o := .dT (merA [] kvs)) ⟨len, big, _, (kt_merge kt .nil).keeps fun c ys e => ?_, ob, en, ep, g1, g2, g3, g4, g5⟩, rfl, q _ fr⟩
      rw [upd_ne (ne_of_none e fr)]
      exact e
end
end K70

/-! K70L: sorted([a, b], key=lambda k: o.f[k]). -/
namespace K70
open PySem PySem.Spec PyProof.Rows L2 LamX
abbrev keyPs (x : PySem.Str) (q : Pos) : Arguments := { posonlyargs := [], args := [⟨x, none, q⟩], vararg := none, kwonlyargs := [], kw_defaults := [], kwarg := none, defaults := [] }
abbrev keyBd (o f x : PySem.Str) (p1 p2 p3 p4 : Pos) : Expr := .Subscript (.Attribute (.Name o p1) f p2) (.Name x p3) p4
section
variable {prog : Program} {w : World} {K : PySem.W.Frag} {mg : Str → Option Value} {base : Heap} {A : Around} {s : Shared} {f a dx d C c' cv : Addr} {o fl x : PySem.Str} {p1 p2 p3 p4 : Pos} {scope : Scope} {qual : PySem.Str} {clos : List (Str × Addr)} {pm ctv : Value} {mA : Str → Option Value} {vs : List (Key × Value)} {u : Value} {k : Key} {i : Int} {t : Tok} {params : Arguments}
open PySem.W in
/-- the lambda, called -/
theorem key_call (KX : K.In s.heap) (lim : s.heap.NoLimit) (dp : A.depth < recursionLimit) (hf : s.heap.get? f = some (kla_obj "<lambda>" qual params (keyBd o fl x p1 p2 p3 p4) scope clos pm c' ctv)) (hcd : s.heap.CodeRec (.ref c') qual)
    (sk : scope.kind = .function) (sco : scope.isCoroutine = false) (sge : scope.isGenerator = false) (sc : ∀ y ∈ scope.names, y.2 ≠ .cell) (so : scope.names.lookup o = some .free) (sx : scope.names.lookup x = some .local) (hb : bindArgs (kla_fn "<lambda>" qual params (keyBd o fl x p1 p2 p3 p4) scope clos pm (.ref c') ctv) ⟨[u], []⟩ = pure [(x, u)])
    (hcl : clos.lookup o = some cv) (hcv : s.heap.IsCell cv (some (.ref a))) (O : ObjM s.heap a dx C mA) (hg : plainGet K C fl = true) (hh : hasDictIn K C = true) (ha : findIn K (.ref C) fl = some none) (hv : mA fl = some (.ref d)) (dd : s.heap.DictOf (mixKind prog w) d vs) (hk : (mixKind prog w).is k u = true) (hi : valueAt vs k = some (.int i t))
    (do_ : (o == ("__debug__" : PySem.Str)) = false) (dx_ : (x == ("__debug__" : PySem.Str)) = false) (dc_ : (o == ("__classdict__" : PySem.Str)) = false) :
    wpAny (model prog w) A (call (.ref f) [u]) (fun r s' => ∃ h' tk', s' = { s with heap := h', toks := tk' } ∧ r = .int i t ∧ ∀ b ob, s.heap.get? b = some ob → h'.get? b = some ob) (fun _ _ => False) s := by
  refine wpAny_call (kla_callFunE dp hf rfl sco sge rfl hcd ?_)
  rw [hb]
  refine wpAny_pure (wpAny_newFunctionEnv sc (fun y hy => by rw [List.mem_singleton.mp hy]; exact sx) (fun h1 hns hsb => ⟨lim.fresh _ hsb, kla_codeExpr ?_⟩) sk)
  have kp : ∀ b ob, s.heap.get? b = some ob → h1.get? b = some ob := fun b ob e => hsb.extBut b ob (Nat.ne_of_lt (Heap.lt_size e)) (Heap.get?_push_of_some _ e)
  have O1 : ObjM h1 a dx C mA := ⟨kp _ _ O.obj, O.ns.at fun o e => kp _ _ e, O.ne⟩
  have d1 : h1.DictOf (mixKind prog w) d vs := dd.at' fun o e => kp _ _ e
  refine subD_of PySem.F.slot_dict_getitem.lookup (fun _ _ => rfl) (attr_of rfl (wpAny_Name (wpAny_loadName_free (v := .ref a) sk so hcl ?_ ?_ dc_) do_))
  · obtain ⟨oc, e1, e2⟩ := hcv
    exact ⟨oc, kp _ _ e1, e2⟩
  refine get_map (KX.keeps kp) O1 hg hh ha hv rfl (wpAny_Name (wpAny_loadName_local (v := u) sk sx hns ?_ ?_) dx_)
  · simp [List.lookup]
  refine ⟨d1.typeIs, wpAny_getItem_of hk d1.mapOf hi ?_⟩
  exact ⟨h1, _, rfl, rfl, kp⟩
end
/-- sorted([e1, e2], key=lambda x: o.fl[x]): o in the slot i -/
def rSortK (K : PySem.W.Frag) (T : List (Addr × Str)) (i : Nat) (fl : PySem.Str) (σ : L2.St) (Q : VK) (l : V) (H1 : Hp) : Prop := ∃ (b a dx C d : Addr) (fs : List (Str × V)) (kvs : List (Key × V)) (s1 s2 : PySem.Str) (k1 k2 : Int), l = .ref b ∧ H1 b = some (.lst [.str s1, .str s2]) ∧ Tabs T H1 ∧
  σ[i]? = some (some (.ref a)) ∧ H1 a = some (.ins C dx fs) ∧ Cls K C ∧ NoAttr K C fl ∧ fs.lookup fl = some (.ref d) ∧ H1 d = some (.dK kvs) ∧ valV kvs (.inr s1) = some (.int k1) ∧ valV kvs (.inr s2) = some (.int k2) ∧
  ∀ (y1 y2 : PySem.Str) (H2 : Hp) (p : Addr), ((k1 ≤ k2 ∧ y1 = s1 ∧ y2 = s2) ∨ (k2 ≤ k1 ∧ y1 = s2 ∧ y2 = s1)) → ExtN H1 H2 → Tabs T H2 → H2 p = none → Q (.ref p) (upd H2 p (.lst [.str y1, .str y2]))
def tSortK (K : PySem.W.Frag) (T : List (Addr × Str)) (i : Nat) (fl : PySem.Str) (te : TE) : TE := fun σ H Q => te σ H (rSortK K T i fl σ Q)
theorem tcons1 {te : TE} {σ : L2.St} {H : Hp} {R : VK} (h : te σ H R) : tCons te tNil σ H fun vs H1 => ∃ l, vs = [l] ∧ R l H1 := by
  have e : (fun (v : V) (H1 : Hp) => ∃ l, [v] = [l] ∧ R l H1) = R := by
    funext v H1
    exact propext ⟨fun ⟨l, e, r⟩ => (List.cons.inj e).1 ▸ r, fun r => ⟨v, rfl, r⟩⟩
  show te σ H fun v H1 => ∃ l, [v] = [l] ∧ R l H1
  rw [e]
  exact h
theorem ok_there {P : Program} {w : World} {H : Hp} {h : Heap} {a : Addr} : ∀ {o : HO}, ObjOk P w H h a o → ∃ ob, h.get? a = some ob
  | .lst _, x => let ⟨_, _, _, _, e⟩ := x; ⟨_, e⟩
  | .tup _, x => let ⟨_, _, _, o, e, _⟩ := x; ⟨o, e⟩
  | .dK _, x => let ⟨_, _, _, _, o, _, _, e, _⟩ := x; ⟨o, e⟩
  | .dT _, x => let ⟨_, _, _, _, o, _, _, e, _⟩ := x; ⟨o, e⟩
  | .set _ _, x => by
    obtain ⟨o, _, _, _, e, _⟩ := x
    exact ⟨_, e⟩
  | .ins _ _ _, x => let ⟨_, _, _, e, _⟩ := x; ⟨_, e⟩
  | .own _, x => x
  | .xd _, x => let ⟨_, ⟨o, _, _, e, _⟩, _⟩ := x; ⟨o, e⟩
  | .rng _ _, x => let ⟨_, _, _, e⟩ := x; ⟨_, e⟩
  | .frz _ _, x => ⟨_, x.1⟩
  | .tbl _, x => ⟨_, x⟩
  | .met _ _, x => ⟨_, x⟩
  | .ext _, x => x.2.1
section
variable {X : Cx}
theorem pe_sortK {T : List (Addr × Str)} {c P : Addr} {i : Nat} {o fl x : PySem.Str} {es : List Expr} {te : TE} {scope : Scope} {p lpos epos kpos pos q p1 p2 p3 p4 : Pos} (he : PE X (.List es epos) te) (TB : TabB X.base X.mg c P) (hcode : X.env.code = .ref c) (hmT : (P, X.env.qual ++ "<lambda>") ∈ T) (hu : ∀ p ∈ T, p.1 = P → p.2 = X.env.qual ++ "<lambda>")
    (hr : Room 2 X.A) (hN : X.N[i]? = some o) (hvc : X.env.scope.names.lookup o = some .cell) (sk : scope.kind = .function) (sco : scope.isCoroutine = false) (sge : scope.isGenerator = false) (sc : ∀ y ∈ scope.names, y.2 ≠ .cell) (sf : ∀ y ∈ scope.names, y.2 = .free → X.env.scope.names.lookup y.1 = some .cell ∨ X.env.scope.names.lookup y.1 = some .free)
    (so : scope.names.lookup o = some .free) (sx : scope.names.lookup x = some .local)
    (hbind : ∀ (qq : PySem.Str) (cl : List (Str × Addr)) (pm cv ctv u : Value), bindArgs (PySem.W.kla_fn "<lambda>" qq (keyPs x q) (keyBd o fl x p1 p2 p3 p4) scope cl pm cv ctv) ⟨[u], []⟩ = pure [(x, u)]) (hg : Gl X "sorted" := by rfl) (hm : X.mg "sorted" = none)
    (do_ : (o == ("__debug__" : PySem.Str)) = false := by decide) (dx_ : (x == ("__debug__" : PySem.Str)) = false := by decide) (dc_ : (o == ("__classdict__" : PySem.Str)) = false := by decide) :
    PE X (.Call (.Name "sorted" p) [.List es epos] [⟨some "key", .Lambda (keyPs x q) (keyBd o fl x p1 p2 p3 p4) scope lpos, kpos⟩] pos) (tSortK X.K T i fl te) := by
  have hfree : ∀ (Y : X.Ok), ∀ y ∈ scope.names, y.2 = .free → ∃ c, X.env.cells.lookup y.1 = some c := fun ok y hy e => (sf y hy e).elim (fun k => ok.has _ (.inl k)) (fun k => ok.has _ (.inr k))
  refine ⟨fun pins s σ H Q I h => ?_⟩
  refine wpAny_Call_Name_kw (ld_blt I hg hm (by rfl : bootBuiltins "sorted" = some (.builtin "sorted")) (PyProof.Rows.callWith_kw ?_ (by rfl) (by rfl) (by rfl) (by rfl)))
  refine thn ((pa_cons he pa_nil).run pos pins s σ H _ I (tcons1 h)) fun us s1 ⟨vs, H1, I1, r1, l, ev, b, a, dx, C, d, fs, kvs, y1, y2, k1, k2, el, hb, hT1, hσ, ha, cl, na, lf, hd, v1, v2, qq⟩ => ?_
  subst ev el
  cases r1 with
  | cons r rr =>
    cases rr
    cases r
    show wpAny _ _ (evalAll [do let v ← eval (.Lambda (keyPs x q) (keyBd o fl x p1 p2 p3 p4) scope lpos) X.env; standAt pos; pure v]) _ _ s1
    refine wpAny_evalAll_cons (wpAny_bind (lam_make2 I1 TB hcode hmT hu hT1 rfl (hfree I1.ok) fun f c' pm ctv H2 s2 I2 eN T2 hf hfn hfr hco => wpAny_bind (wpAny_standAt (wpAny_pure (wpAny_evalAll_nil ?_)))))
    show wpAny _ _ (call (.builtin "sorted") [.ref b] [(Str.ofString "key", .ref f)]) _ _ s2
    have hb2 := eN _ _ hb (fun ps z => by cases z)
    have ha2 := eN _ _ ha (fun ps z => by cases z)
    have hd2 := eN _ _ hd (fun ps z => by cases z)
    obtain ⟨its, rv, pl, _⟩ := I2.list (.inl (.inl hb2))
    cases rv with
    | @cons _ u1 _ _ e1 rv =>
      cases rv with
      | @cons _ u2 _ _ e2 rv =>
        cases rv
        obtain ⟨m, F⟩ := I2.fr
        -- what the two turns read
        obtain ⟨mA, O, rel, _, _, ownx⟩ := ins_get I2.hok ha2
        obtain ⟨ud, hud, rud⟩ := RelO.some_of (v := V.ref d) (o := mA fl) (by rw [← lf]; exact rel fl)
        obtain rfl : ud = .ref d := rud
        obtain ⟨_, _, vs, kv, dd⟩ := dk_of I2.hok hd2
        obtain ⟨w1, hw1, t1, rfl⟩ := RelO.some_of (v := V.int k1) (o := valueAt vs (.inr y1)) (by rw [← v1]; exact kv.val _)
        obtain ⟨w2, hw2, t2, rfl⟩ := RelO.some_of (v := V.int k2) (o := valueAt vs (.inr y2)) (by rw [← v2]; exact kv.val _)
        obtain ⟨_, hn, hl⟩ := id I2.loc
        obtain ⟨uo, ruo, lo⟩ := hl i o _ hN hσ (.inr (.inl hvc))
        obtain rfl : uo = .ref a := ruo
        have hcell : ∃ cv, X.env.cells.lookup o = some cv ∧ s2.heap.IsCell cv (some (.ref a)) := by
          rcases lo with ⟨z, _⟩ | ⟨_, z⟩
          · have z : X.env.scope.names.lookup o = some .local := z
            rw [hvc] at z
            cases z
          · exact z
        obtain ⟨cv, hcv, isc⟩ := hcell
        have nL : ∀ {b' : Addr} {u : HO}, H2 b' = some u → b' ≠ X.env.locals := fun {b' u} e z => by rw [z, I2.free] at e; cases e
        have kk : ∀ {h : Heap} {own : List (Addr × Obj)}, Fr X.base X.env.locals h m → News X.base X.env.locals h (allNews X.base s2.heap X.env.locals ++ own) → ∀ b' o', b' ≠ X.env.locals → s2.heap.get? b' = some o' → h.get? b' = some o' := fun {h own} F' N' b' o' n e => by
          cases z : X.base.get? b' with
          | some v =>
            have y := I2.bk b' v z
            rw [e] at y
            cases y
            exact F'.keep _ _ z
          | none => exact (N' (b', o') (List.mem_append_left _ (mem_allNews n z e))).1
        have fL : f ≠ X.env.locals := fun z => by
          obtain ⟨ob, es, ep, e1, e2, _⟩ := hn
          rw [← z, hf] at e1
          cases e1
          cases e2
        obtain ⟨⟨oc, cvs, ct, hoc, hdc, hvc⟩, _, _⟩ := I2.hok c' _ hco
        have clo : (cloFrom X.env.cells scope.names []).lookup o = some cv := by
          obtain ⟨c2, h2⟩ := mem_lookup (cloFrom_has (cells := X.env.cells) (acc := []) (PySem.mem_of_lookup so))
          rcases cloFrom_mem (PySem.mem_of_lookup h2) with hm | ⟨_, h3⟩
          · cases hm
          · rw [h2, h3, hcv] <;> rfl
        have turn : ∀ {u : Value} {y : PySem.Str} {k : Int} {t : Tok}, L2.RelV (.str y) u → valueAt vs (.inr y) = some (.int k t) → ∀ (h : Heap) (tk : Nat) (own : List (Addr × Obj)), Fr X.base X.env.locals h m → News X.base X.env.locals h (allNews X.base s2.heap X.env.locals ++ own) →
            wpAny (model X.prog X.w) X.A.in1.in1 (call (.ref f) [u]) (KskEnd X.base X.env.locals m (allNews X.base s2.heap X.env.locals ++ own) k { s2 with heap := h, toks := tk }) (fun _ _ => False) { s2 with heap := h, toks := tk } := fun {u y k t} ru hv h tk own F' N' => by
          have kh := kk F' N'
          refine wpAny_mono (key_call (s := { s2 with heap := h, toks := tk }) (A := X.A.in1.in1) (I2.mod.kin.keeps F'.keep) (I2.mod.nolimit.keeps F'.keep) hr.depth (kh f _ fL hf) ⟨c', oc, cvs, ct, rfl, kh c' _ (nL hco) hoc, hdc, hvc⟩ sk sco sge sc so sx (hbind ..) clo ?_ ⟨kh a _ (nL ha2) O.obj, O.ns.at fun o e => kh dx _ (nL ownx) e, O.ne⟩ (cl.get fl) cl.hd na hud
            (dd.at' fun o e => kh d _ (nL hd2) e) (kV_is (k := .inr y) ru) hv do_ dx_ dc_) (fun r s' ⟨h', tk', es, er, k'⟩ => ⟨h', tk', t, es, er, F'.kept k', N'.grown k'⟩) fun _ _ z => z
          obtain ⟨co, z1, z2⟩ := isc
          exact ⟨co, kh cv _ (I2.cne o cv hcv) z1, z2⟩
        have fin : ∀ {z1 z2 : PySem.Str} {w1 w2 : Value}, L2.RelV (.str z1) w1 → L2.RelV (.str z2) w2 → ((k1 ≤ k2 ∧ z1 = y1 ∧ z2 = y2) ∨ (k2 ≤ k1 ∧ z1 = y2 ∧ z2 = y1)) → ∀ D cc h' tk, Fr X.base X.env.locals h' m → News X.base X.env.locals h' ((D, PySem.W.listOf (List.toArray [w1, w2]) cc) :: allNews X.base s2.heap X.env.locals) →
            (∀ q ∈ allNews X.base s2.heap X.env.locals, q.1 < D) → EP X pins σ Q (.ref D) { s2 with heap := h', toks := tk } := fun {z1 z2 w1 w2} r1 r2 how D cc h' tk F' N' l1 => by
          have kh := kk (own := []) F' (by rw [List.append_nil]; exact fun p hp => N' p (List.mem_cons_of_mem _ hp))
          have nD : H2 D = none := by
            cases z : H2 D with
            | none => rfl
            | some v =>
              obtain ⟨ob, e1⟩ := ok_there (I2.hok D v z)
              have e2 : X.base.get? D = none := by
                cases y : X.base.get? D with
                | none => rfl
                | some v' =>
                  have := (I2.bs D v' y).2
                  rw [z] at this
                  cases this
              exact absurd (l1 _ (mem_allNews (nL z) e2 e1)) (Nat.lt_irrefl _)
          have J : L2.Inv X pins σ (upd H2 D (.lst [.str z1, .str z2])) { s2 with heap := h', toks := tk } := by
            refine I2.step (g' := s2.gens) (d' := s2.drawn) (t' := tk) (ch := []) (fun _ z => nomatch z) (fun b' o' n _ _ e _ => kh b' o' n e) (fun b' o' n _ _ e _ => ⟨o'.slots, kh b' o' n e⟩) (fun b' o' _ e n => ?_) (fun b' o' _ e => ?_) (fun b' xs e => ?_) (fun b' o' u e => ?_) (fun b' ps e => ⟨#[], ?_⟩) (fun m' hm' => ?_) (fun b' u e => ?_) I2.bare
            · rw [upd_ne (fun z => ?_)]
              · exact n
              · have lt : X.base.get? D = none := by
                  cases y : X.base.get? D with
                  | none => rfl
                  | some v' =>
                    have y1 := (N' _ (List.mem_cons_self ..)).2.2
                    rw [y] at y1
                    cases y1
                have nl : D ≠ X.env.locals := (N' _ (List.mem_cons_self ..)).2.1
                exact absurd (l1 _ (mem_allNews nl lt (z ▸ e))) (Nat.lt_irrefl _)
            · by_cases z : b' = X.env.locals
              · obtain ⟨ob, _, _, e1, _⟩ := F'.ns
                exact ⟨ob, by rw [z]; exact e1⟩
              · exact ⟨o', kh b' o' z e⟩
            · rw [upd_ne (ne_of_none e nD)]
              exact e
            · rw [upd_ne (ne_of_none e nD)]
              exact e
            · rw [upd_ne (ne_of_none e nD), e]
              simp
            · rw [SlX.ns_only hm' F.ns]
              exact F'.ns
            · by_cases z : b' = D
              · subst z
                rw [upd_same] at e
                cases e
                exact ⟨by show 2 ≤ sizeLine; decide, [w1, w2], cc, .cons r1 (.cons r2 .nil), (N' _ (List.mem_cons_self ..)).1⟩
              · rw [upd_ne z] at e
                exact (I2.hok b' u e).stay (fun c0 v0 hc0 q0 => kh c0 v0 (hc0.elim (fun y => by rw [y]; exact nL e) fun y => nL y) q0) (fun c0 y => by rw [upd_ne (ne_of_none y nD)]; exact y) fun c0 xs y => by rw [upd_ne (ne_of_none y nD)]; exact y
          exact ⟨.ref D, _, J, rfl, qq z1 z2 H2 D how eN T2 nD⟩
        exact PyProof.Rows.ksk_two (b := false) k1 k2 F news_all pl.isList (PyProof.Rows.ksk_s1 _ _) (fun _ => PyProof.Rows.ksk_l1 _ _) (fun _ => PyProof.Rows.ksk_t1 _ _) (turn e1 hw1) (turn e2 hw2) (fun le D cc h' tk F' N' l1 => fin e1 e2 (.inl ⟨le, rfl, rfl⟩) D cc h' tk F' N' l1)
          (fun le D cc h' tk F' N' l1 => fin e2 e1 (.inr ⟨le, rfl, rfl⟩) D cc h' tk F' N' l1)
end
end K70

/-! K70M: repr of nested data. -/
namespace K70
open PySem PySem.Spec PyProof.Rows L2 LamX
/-- data that repr shows: no dict, small enough -/
structure ShowOk (d : PyData) : Prop where
  sh : d.showable = true
  nd : d.hasDict = false
  sz : d.shown.length ≤ sizeLine
  dp : d.depth ≤ 8
theorem call_reprD {X : Cx} (hg : X.A.guards = some []) (hu : X.A.units + 16 < cLine) : CallR X (.builtin "repr") (fun xs H Q => ∃ a d, xs = [.ref a] ∧ Dp X.K H (.ref a) d ∧ ShowOk d ∧ Q (.str d.shown) H) := by
  intro pins s σ H xs us Q I r q
  obtain ⟨a, d, rfl, hd, ok, q⟩ := q
  cases r with
  | cons r1 rr =>
    cases rr
    obtain ⟨as, rd⟩ := Dp.reads I d (.ref a) _ hd r1
    cases r1
    have hk := ok.dp
    exact repr_of_reads' rd ok.sh (fun z => by rw [ok.nd] at z; cases z) hg (by omega) (fun _ _ e => e) (fun h' u tk k => ⟨.str d.shown, H, I.kept (t' := tk) k, ⟨_, rfl⟩, q⟩) ok.sz
end K70

/-! K70S: the text by places, what the top leaves, kinds of values. -/
namespace K70
open PySem PySem.Spec PyProof.Rows L2 LamX
def topS (i : Nat) : Stmt := PySem.Challenge.pw_feasted_k70_whole_begun_so_far.main.body.getD i (.Pass ⟨0, 0, 0, 0⟩)
theorem bi_isinstance : bootBuiltins "isinstance" = some (.builtin "isinstance") := by decide +kernel
theorem bi_len : bootBuiltins "len" = some (.builtin "len") := by decide +kernel
theorem bi_all : bootBuiltins "all" = some (.builtin "all") := by decide +kernel
theorem bi_sum : bootBuiltins "sum" = some (.builtin "sum") := by decide +kernel
theorem bi_abs : bootBuiltins "abs" = some (.builtin "abs") := by decide +kernel
theorem bi_max : bootBuiltins "max" = some (.builtin "max") := by decide +kernel
theorem bi_repr : bootBuiltins "repr" = some (.builtin "repr") := by decide +kernel
theorem bi_list : bootBuiltins "list" = some (.type "list") := by decide +kernel
theorem bi_tuple : bootBuiltins "tuple" = some (.type "tuple") := by decide +kernel
theorem bi_dict : bootBuiltins "dict" = some (.type "dict") := by decide +kernel
theorem bi_int : bootBuiltins "int" = some (.type "int") := by decide +kernel
theorem bi_str : bootBuiltins "str" = some (.type "str") := by decide +kernel
theorem bi_bool : bootBuiltins "bool" = some (.type "bool") := by decide +kernel
abbrev smallS : PySem.Str := "abcdefghijklmnopqrstuvwxyz"
abbrev figS : PySem.Str := "0123456789"
/-- an instance's class is told by isinstance -/
structure ClsI (K : PySem.W.Frag) (C : Addr) : Prop where
  cl : Cls K C
  ha : PySem.W.findIn K (.ref C) "__class__" = some (some (.builtin "object.__class__"))
  hn : PySem.W.specialIn K (.builtin "object.__class__") "__get__" = some (some (.builtin "getset_descriptor.__get__"))
  ht : PySem.W.takesIn K (.builtin "object.__class__") = some true
  hm : PySem.W.mroIn K C (.type "object") = some true
  self : PySem.W.kitOne K (.ref C) (.ref C) = some true
  no : ∀ s ∈ ["NoneType", "bool", "int", "str", "list", "tuple", "dict"], PySem.W.kitOne K (.type s) (.ref C) = some false
/-- what the top leaves; CV, CG, CB: where Valley, BadValley, BadBegun stand -/
structure Tx (P : Program) (K : PySem.W.Frag) (mg : Str → Option Value) (CV CG CB : Addr) : Prop where
  isinstance : mg "isinstance" = none
  len : mg "len" = none
  all : mg "all" = none
  sum : mg "sum" = none
  abs : mg "abs" = none
  max : mg "max" = none
  repr : mg "repr" = none
  range : mg "range" = none
  enumerate : mg "enumerate" = none
  zip : mg "zip" = none
  sorted : mg "sorted" = none
  list : mg "list" = none
  tuple : mg "tuple" = none
  dict : mg "dict" = none
  int : mg "int" = none
  str : mg "str" = none
  bool : mg "bool" = none
  SMALL : ∃ t, mg "SMALL" = some (.str smallS t)
  FIGURES : ∃ t, mg "FIGURES" = some (.str figS t)
  gValley : mg "Valley" = some (.ref CV)
  gBadValley : mg "BadValley" = some (.ref CG)
  gBadBegun : mg "BadBegun" = some (.ref CB)
  iV : ClsI K CV
  nV : ∀ f ∈ (["names", "ranks", "own_roads", "own_heads", "near", "places"] : List PySem.Str), NoAttr K CV f
  sG : SupC P K mg CG "thing"
  sB : SupC P K mg CB "begun"
  exG : XfC K CG ∧ PySem.W.findIn K (.ref CG) "thing" = some none
  exB : XfC K CB ∧ PySem.W.findIn K (.ref CB) "begun" = some none
  e1 : PySem.W.exmOne K (.ref CG) (.ref CG) = some true
  e2 : PySem.W.exmOne K (.ref CB) (.ref CG) = some false
  e3 : PySem.W.exmOne K (.ref CB) (.ref CB) = some true
theorem pe_globT {X : Cx} {x z : Str} {pos : Pos} (hg : Gl X x) (h : ∃ t, X.mg x = some (.str z t)) (hd : (x == ("__debug__" : Str)) = false := by decide) : PE X (.Name x pos) (tC (.str z)) := by
  obtain ⟨t, h⟩ := h
  exact pe_glob hg h ⟨t, rfl⟩ hd
/-! ### kinds -/
inductive Kd (H : Hp) : V → String → Prop
  | non : Kd H .non "NoneType"
  | bl (b : Bool) : Kd H (.bl b) "bool"
  | int (i : Int) : Kd H (.int i) "int"
  | str (x : PySem.Str) : Kd H (.str x) "str"
  | lst {a : Addr} {xs : List V} (h : H a = some (.lst xs)) : Kd H (.ref a) "list"
  | tup {a : Addr} {xs : List V} (h : H a = some (.tup xs)) : Kd H (.ref a) "tuple"
  | dK {a : Addr} {kvs : List (Key × V)} (h : H a = some (.dK kvs)) : Kd H (.ref a) "dict"
  | dT {a : Addr} {kvs : List (List Key × V)} (h : H a = some (.dT kvs)) : Kd H (.ref a) "dict"
theorem Kd.ext {H H' : Hp} {x : V} {s : String} (e : Ext [] H H') : Kd H x s → Kd H' x s
  | .non => .non
  | .bl b => .bl b
  | .int i => .int i
  | .str z => .str z
  | .lst h => .lst (e.at0 h)
  | .tup h => .tup (e.at0 h)
  | .dK h => .dK (e.at0 h)
  | .dT h => .dT (e.at0 h)
theorem Kd.ty {K : PySem.W.Frag} {H : Hp} {x : V} {s : String} : Kd H x s → TyX K H x (.type s)
  | .non => .base .non
  | .bl b => .base (.bl b)
  | .int i => .base (.int i)
  | .str z => .base (.str z)
  | .lst h => .base (.lst h)
  | .tup h => .base (.tup h)
  | .dK h => .base (.dK h)
  | .dT h => .base (.dT h)
theorem Kd.in7 {H : Hp} {x : V} {s : String} : Kd H x s → s ∈ ["NoneType", "bool", "int", "str", "list", "tuple", "dict"]
  | .non => by decide
  | .bl _ => by decide
  | .int _ => by decide
  | .str _ => by decide
  | .lst _ => by decide
  | .tup _ => by decide
  | .dK _ => by decide
  | .dT _ => by decide
/-- what isinstance says: bool is an int -/
def kb (s c : String) : Bool := s == c || (s == "bool" && c == "int")
theorem kb_ok : ∀ s ∈ ["NoneType", "bool", "int", "str", "list", "tuple", "dict"], ∀ c ∈ ["list", "tuple", "dict", "str", "int", "bool"], kitB s c = some (kb s c) := by decide +kernel
theorem Kd.isi {K : PySem.W.Frag} {H : Hp} {x : V} {s c : String} (k : Kd H x s) (hc : c ∈ ["list", "tuple", "dict", "str", "int", "bool"] := by decide) : PySem.W.kitOne K (.type s) (.type c) = some (kb s c) := kit_ty (kb_ok s k.in7 c hc)
theorem Kd.any {K : PySem.W.Frag} {H : Hp} {x : V} {s : String} (k : Kd H x s) : ∀ {cs : List String}, (∀ c ∈ cs, c ∈ ["list", "tuple", "dict", "str", "int", "bool"]) → PySem.W.kitAny K (.type s) (cs.map Value.type) = some (cs.any (kb s))
  | [], _ => kitAny_nil
  | c :: cs, h => by
    refine kitAny_cons (k.isi (h c (by simp))) (fun e => ?_) fun e => ?_
    · rw [k.any fun z hz => h z (List.mem_cons_of_mem _ hz), List.any_cons, e, Bool.false_or]
    · rw [List.any_cons, e, Bool.true_or]
/-- isinstance(x, c) answered -/
theorem isi_one {K : PySem.W.Frag} {H : Hp} {x : V} {s c : String} {Q : VK} (k : Kd H x s) (q : Q (.bl (kb s c)) H) (hc : c ∈ ["list", "tuple", "dict", "str", "int", "bool"] := by decide) : rIsi K [x, .ty c] H Q := ⟨x, .ty c, _, _, _, rfl, .ty c, k.ty, k.isi hc, q⟩
theorem isi_lt {K : PySem.W.Frag} {H : Hp} {x : V} {s : String} {p : Addr} {Q : VK} (k : Kd H x s) (h : H p = some (.tup [.ty "list", .ty "tuple"])) (q : Q (.bl (kb s "list" || kb s "tuple")) H) : rIsiT K [x, .ref p] H Q := by
  have z := k.any (K := K) (cs := ["list", "tuple"]) (by decide)
  have e : ["list", "tuple"].any (kb s) = (kb s "list" || kb s "tuple") := by simp
  rw [e] at z
  exact ⟨x, p, _, _, _, _, rfl, h, .cons (.ty _) (.cons (.ty _) .nil), k.ty, z, q⟩
theorem isi_ltd {K : PySem.W.Frag} {H : Hp} {x : V} {s : String} {p : Addr} {Q : VK} (k : Kd H x s) (h : H p = some (.tup [.ty "list", .ty "tuple", .ty "dict"])) (q : Q (.bl (kb s "list" || (kb s "tuple" || kb s "dict"))) H) : rIsiT K [x, .ref p] H Q := by
  have z := k.any (K := K) (cs := ["list", "tuple", "dict"]) (by decide)
  have e : ["list", "tuple", "dict"].any (kb s) = (kb s "list" || (kb s "tuple" || kb s "dict")) := by simp
  rw [e] at z
  exact ⟨x, p, _, _, _, _, rfl, h, .cons (.ty _) (.cons (.ty _) (.cons (.ty _) .nil)), k.ty, z, q⟩
section
variable {K : PySem.W.Frag} {H : Hp} {σ : L2.St} {i : Nat} {x : V} {s c : String} {Q : VK}
theorem isi_v (b : Bool) (h : σ[i]? = some (some x)) (k : Kd H x s) (q : Q (.bl b) H) (hb : kb s c = b := by decide) (hc : c ∈ ["list", "tuple", "dict", "str", "int", "bool"] := by decide) : tCB (rIsi K) (tCons (tVar i) (tCons (tC (.ty c)) tNil)) σ H Q := ⟨x, h, isi_one (c := c) k (by rw [hb]; exact q) hc⟩
theorem isi_vlt (b : Bool) (h : σ[i]? = some (some x)) (k : Kd H x s) (q : ∀ H', Ext [] H H' → Q (.bl b) H') (hb : (kb s "list" || kb s "tuple") = b := by decide) : tCB (rIsiT K) (tCons (tVar i) (tCons (tTup (tCons (tC (.ty "list")) (tCons (tC (.ty "tuple")) tNil))) tNil)) σ H Q :=
  ⟨x, h, by show 2 ≤ sizeLine; decide, fun p hp => isi_lt (k.ext (ext_new hp)) upd_same (by rw [hb]; exact q _ (ext_new hp))⟩
theorem isi_vltd (b : Bool) (h : σ[i]? = some (some x)) (k : Kd H x s) (q : ∀ H', Ext [] H H' → Q (.bl b) H') (hb : (kb s "list" || (kb s "tuple" || kb s "dict")) = b := by decide) : tCB (rIsiT K) (tCons (tVar i) (tCons (tTup (tCons (tC (.ty "list")) (tCons (tC (.ty "tuple")) (tCons (tC (.ty "dict")) tNil)))) tNil)) σ H Q :=
  ⟨x, h, by show 3 ≤ sizeLine; decide, fun p hp => isi_ltd (k.ext (ext_new hp)) upd_same (by rw [hb]; exact q _ (ext_new hp))⟩
end
/-! ### lists or tuples, as they stand -/
/-- at a a list or a tuple of xs -/
def Sx (H : Hp) (a : Addr) (xs : List V) : Prop := H a = some (.lst xs) ∨ H a = some (.tup xs)
theorem Sx.sq {K : PySem.W.Frag} {H : Hp} {a : Addr} {xs : List V} (h : Sx H a xs) : Sq K H a xs := h.elim (fun h => .inl (.inl (.inl h))) (fun h => .inr (.inl (.inl h)))
theorem Sx.ext {L : List Addr} {H H' : Hp} {a : Addr} {xs : List V} (h : Sx H a xs) (e : Ext L H H') (n : a ∉ L := by simp) : Sx H' a xs := h.elim (fun h => .inl (e a _ n h)) (fun h => .inr (e a _ n h))
theorem Sx.kd {H : Hp} {a : Addr} {xs : List V} (h : Sx H a xs) : ∃ s, Kd H (.ref a) s ∧ (kb s "list" || kb s "tuple") = true ∧ kb s "str" = false := h.elim (fun h => ⟨_, .lst h, by decide, by decide⟩) (fun h => ⟨_, .tup h, by decide, by decide⟩)
theorem Sx.ne_none {H : Hp} {a p : Addr} {xs : List V} (h : Sx H a xs) (n : H p = none) : a ≠ p := h.elim (fun h => ne_of_none h n) (fun h => ne_of_none h n)
theorem Sx.sqE {K : PySem.W.Frag} {H : Hp} {a : Addr} {xs : List V} (h : Sx H a xs) : SqL K H a xs ∨ SqT K H a xs := h.sq
theorem lenZ {n : Nat} (h : n ≤ 5000) : n < sizeLine := sl (Nat.le_trans h (by decide))
end K70

/-! K70W: comprehensions by what they have made so far. -/
namespace K70
open PySem PySem.Spec PyProof.Rows L2 LamX
theorem itB {b : Bool} {A B : Prop} (hb : b = true) (h : A) : if b = true then A else B := by
  rw [if_pos hb]
  exact h
theorem itN {b : Bool} {A B : Prop} (hb : b = false) (h : B) : if b = true then A else B := by
  rw [hb]
  exact iteF h
/-- the new list at D after i turns -/
abbrev LcI (H1 : Hp) (D : Addr) (R : Nat → List V → Hp → Prop) (i : Nat) (H : Hp) : Prop := Ext [] H1 H ∧ ∃ acc, H D = some (.lst acc) ∧ acc.length ≤ i ∧ R i acc H
/-- what is asked where y is appended -/
abbrev LcP (H1 : Hp) (D : Addr) (R : Nat → List V → Hp → Prop) (i : Nat) (y : V) (H4 : Hp) : Prop := ∃ acc, H4 D = some (.lst acc) ∧ acc.length < sizeLine ∧ LcI H1 D R (i + 1) (upd H4 D (.lst (acc ++ [y])))
abbrev DcI (H1 : Hp) (D : Addr) (R : Nat → List (Key × V) → Hp → Prop) (i : Nat) (H : Hp) : Prop := Ext [] H1 H ∧ ∃ kvs, H D = some (.dK kvs) ∧ kvs.length ≤ i ∧ R i kvs H
abbrev DcP (H1 : Hp) (D : Addr) (R : Nat → List (Key × V) → Hp → Prop) (i : Nat) (y z : V) (H5 : Hp) : Prop := ∃ kvs k, y = kV k ∧ H5 D = some (.dK kvs) ∧ kvs.length < sizeLine ∧ DcI H1 D R (i + 1) (upd H5 D (.dK (putK kvs k z)))
abbrev DtI (H1 : Hp) (D : Addr) (R : Nat → List (List Key × V) → Hp → Prop) (i : Nat) (H : Hp) : Prop := Ext [] H1 H ∧ ∃ kvs, H D = some (.dT kvs) ∧ kvs.length ≤ i ∧ R i kvs H
abbrev DtP (H1 : Hp) (D : Addr) (R : Nat → List (List Key × V) → Hp → Prop) (i : Nat) (y z : V) (H5 : Hp) : Prop := ∃ kvs k b, y = .ref b ∧ H5 b = some (.tup (k.map kV)) ∧ H5 D = some (.dT kvs) ∧ kvs.length < sizeLine ∧ DtI H1 D R (i + 1) (upd H5 D (.dT (putK kvs k z)))
section
variable {H1 H H4 : Hp} {D : Addr} {i : Nat} {y z : V}
theorem lcp {R : Nat → List V → Hp → Prop} {acc : List V} (n : H1 D = none) (e : Ext [] H1 H4) (h : H4 D = some (.lst acc)) (l : acc.length ≤ i) (zz : i ≤ 5000) (r : R (i + 1) (acc ++ [y]) (upd H4 D (.lst (acc ++ [y])))) : LcP H1 D R i y H4 :=
  ⟨acc, h, lenZ (Nat.le_trans l zz), e.put n, _, upd_same, by rw [List.length_append]; exact Nat.succ_le_succ l, r⟩
theorem dcp {R : Nat → List (Key × V) → Hp → Prop} {kvs : List (Key × V)} {k : Key} (n : H1 D = none) (e : Ext [] H1 H4) (h : H4 D = some (.dK kvs)) (l : kvs.length ≤ i) (zz : i ≤ 5000) (ey : y = kV k) (r : R (i + 1) (putK kvs k z) (upd H4 D (.dK (putK kvs k z)))) : DcP H1 D R i y z H4 :=
  ⟨kvs, k, ey, h, lenZ (Nat.le_trans l zz), e.put n, _, upd_same, Nat.le_trans (length_putK ..) (Nat.succ_le_succ l), r⟩
theorem dtp {R : Nat → List (List Key × V) → Hp → Prop} {kvs : List (List Key × V)} {k : List Key} {b : Addr} (n : H1 D = none) (e : Ext [] H1 H4) (h : H4 D = some (.dT kvs)) (l : kvs.length ≤ i) (zz : i ≤ 5000) (ey : y = .ref b) (hb : H4 b = some (.tup (k.map kV))) (r : R (i + 1) (putK kvs k z) (upd H4 D (.dT (putK kvs k z)))) : DtP H1 D R i y z H4 :=
  ⟨kvs, k, b, ey, hb, h, lenZ (Nat.le_trans l zz), e.put n, _, upd_same, Nat.le_trans (length_putK ..) (Nat.succ_le_succ l), r⟩
end
section
variable {J : It} {n : Nat} {G : Hp → Prop} {Y : Nat → Hp → V → Hp → Prop} {g : TG} {tt : TT} {te tk tv : TE} {vs : List Nat} {σ : L2.St} {H1 : Hp} {D : Addr} {Qd : Hp → Prop}
theorem lc_run (w : Walk J n G Y) (hG : ∀ H', Ext [] H1 H' → G H') (nD : H1 D = none) (R : Nat → List V → Hp → Prop) (r0 : R 0 [] (upd H1 D (.lst [])))
    (hs : ∀ i x H H', i < n → LcI H1 D R i H → Y i H x H' → g x (wipe σ vs) H' fun σ2 H2 => wipe σ2 vs = wipe σ vs ∧ tt σ2 H2 fun b H3 => if b = true then te σ2 H3 fun y H4 => LcP H1 D R i y H4 else LcI H1 D R (i + 1) H3)
    (hd : ∀ acc H, Ext [] H1 H → H D = some (.lst acc) → R n acc H → Qd H) :
    ∃ W : Nat → Nat → Hp → Prop, (∃ m, W 0 m (upd H1 D (.lst []))) ∧ ∀ i m H, W i m H →
      (J.stop i H ∧ Qd H) ∨ (J.go i H ∧ ∃ Nx : Hp → Prop, (∀ H', Nx H' → ∃ m', m' < m ∧ W (i + 1) m' H') ∧ ∀ x H', J.yld i H x H' → g x (wipe σ vs) H' fun σ2 H2 => wipe σ2 vs = wipe σ vs ∧ tt σ2 H2 fun b H3 =>
        if b = true then te σ2 H3 fun y H4 => ∃ acc, H4 D = some (.lst acc) ∧ acc.length < sizeLine ∧ Nx (upd H4 D (.lst (acc ++ [y]))) else Nx H3) :=
  lc_it w (LcI H1 D R) ⟨ext_new nD, [], upd_same, Nat.le_refl _, r0⟩ (fun i H _ p => hG H p.1) hs fun H ⟨e, acc, h, _, r⟩ => hd acc H e h r
theorem dc_run (w : Walk J n G Y) (hG : ∀ H', Ext [] H1 H' → G H') (nD : H1 D = none) (R : Nat → List (Key × V) → Hp → Prop) (r0 : R 0 [] (upd H1 D (.dK [])))
    (hs : ∀ i x H H', i < n → DcI H1 D R i H → Y i H x H' → g x (wipe σ vs) H' fun σ2 H2 => wipe σ2 vs = wipe σ vs ∧ tt σ2 H2 fun b H3 => if b = true then tk σ2 H3 fun y H4 => tv σ2 H4 fun z H5 => DcP H1 D R i y z H5 else DcI H1 D R (i + 1) H3)
    (hd : ∀ kvs H, Ext [] H1 H → H D = some (.dK kvs) → R n kvs H → Qd H) :
    ∃ W : Nat → Nat → Hp → Prop, (∃ m, W 0 m (upd H1 D (.dK []))) ∧ ∀ i m H, W i m H →
      (J.stop i H ∧ Qd H) ∨ (J.go i H ∧ ∃ Nx : Hp → Prop, (∀ H', Nx H' → ∃ m', m' < m ∧ W (i + 1) m' H') ∧ ∀ x H', J.yld i H x H' → g x (wipe σ vs) H' fun σ2 H2 => wipe σ2 vs = wipe σ vs ∧ tt σ2 H2 fun b H3 =>
        if b = true then tk σ2 H3 fun y H4 => tv σ2 H4 fun z H5 => ∃ kvs k, y = kV k ∧ H5 D = some (.dK kvs) ∧ kvs.length < sizeLine ∧ Nx (upd H5 D (.dK (putK kvs k z))) else Nx H3) :=
  dc_it w (DcI H1 D R) ⟨ext_new nD, [], upd_same, Nat.le_refl _, r0⟩ (fun i H _ p => hG H p.1) hs fun H ⟨e, kvs, h, _, r⟩ => hd kvs H e h r
theorem dt_run (w : Walk J n G Y) (hG : ∀ H', Ext [] H1 H' → G H') (nD : H1 D = none) (R : Nat → List (List Key × V) → Hp → Prop) (r0 : R 0 [] (upd H1 D (.dT [])))
    (hs : ∀ i x H H', i < n → DtI H1 D R i H → Y i H x H' → g x (wipe σ vs) H' fun σ2 H2 => wipe σ2 vs = wipe σ vs ∧ tt σ2 H2 fun b H3 => if b = true then tk σ2 H3 fun y H4 => tv σ2 H4 fun z H5 => DtP H1 D R i y z H5 else DtI H1 D R (i + 1) H3)
    (hd : ∀ kvs H, Ext [] H1 H → H D = some (.dT kvs) → R n kvs H → Qd H) :
    ∃ W : Nat → Nat → Hp → Prop, (∃ m, W 0 m (upd H1 D (.dT []))) ∧ ∀ i m H, W i m H →
      (J.stop i H ∧ Qd H) ∨ (J.go i H ∧ ∃ Nx : Hp → Prop, (∀ H', Nx H' → ∃ m', m' < m ∧ W (i + 1) m' H') ∧ ∀ x H', J.yld i H x H' → g x (wipe σ vs) H' fun σ2 H2 => wipe σ2 vs = wipe σ vs ∧ tt σ2 H2 fun b H3 =>
        if b = true then tk σ2 H3 fun y H4 => tv σ2 H4 fun z H5 => ∃ kvs k b, y = .ref b ∧ H5 b = some (.tup (k.map kV)) ∧ H5 D = some (.dT kvs) ∧ kvs.length < sizeLine ∧ Nx (upd H5 D (.dT (putK kvs k z))) else Nx H3) :=
  dcT_it w (DtI H1 D R) ⟨ext_new nD, [], upd_same, Nat.le_refl _, r0⟩ (fun i H _ p => hG H p.1) hs fun H ⟨e, kvs, h, _, r⟩ => hd kvs H e h r
end
/-! ### made of plain values: by a function -/
section
variable {H1 H H4 : Hp} {D : Addr} {i n : Nat} {y z x : V} {xs : List V}
/-- the first i turns have made this -/
abbrev Fm (xs : List V) (f : V → Option V) : Nat → List V → Hp → Prop := fun i acc _ => acc = (xs.take i).filterMap f
theorem take_next {α : Type} {xs : List α} {i : Nat} {x : α} (h : xs[i]? = some x) : xs.take (i + 1) = xs.take i ++ [x] := by
  rw [List.take_add_one, h]
  rfl
theorem fm_push {f : V → Option V} (n : H1 D = none) (I : LcI H1 D (Fm xs f) i H) (e : Ext [] H H4) (h : xs[i]? = some x) (fx : f x = some y) (zz : i ≤ 5000) : LcP H1 D (Fm xs f) i y H4 := by
  obtain ⟨e0, acc, hD, l, r⟩ := I
  refine lcp n (e0.trans e) (e.at0 hD) l zz ?_
  show acc ++ [y] = (xs.take (i + 1)).filterMap f
  have r : acc = (xs.take i).filterMap f := r
  rw [take_next h, List.filterMap_append, ← r]
  simp [fx]
theorem fm_skip {f : V → Option V} (I : LcI H1 D (Fm xs f) i H) (e : Ext [] H H4) (h : xs[i]? = some x) (fx : f x = none) : LcI H1 D (Fm xs f) (i + 1) H4 := by
  obtain ⟨e0, acc, hD, l, r⟩ := I
  refine ⟨e0.trans e, acc, e.at0 hD, Nat.le_succ_of_le l, ?_⟩
  have r : acc = (xs.take i).filterMap f := r
  show acc = (xs.take (i + 1)).filterMap f
  rw [take_next h, List.filterMap_append, ← r]
  simp [fx]
/-- dicts -/
abbrev Fd {κ : Type} [DecidableEq κ] (xs : List V) (f : V → Option (κ × V)) : Nat → List (κ × V) → Hp → Prop := fun i acc _ => acc = merA [] ((xs.take i).filterMap f)
theorem merA_snoc {κ : Type} [DecidableEq κ] (acc more : List (κ × V)) (p : κ × V) : merA acc (more ++ [p]) = putK (merA acc more) p.1 p.2 := by
  unfold merA
  rw [List.foldl_append]
  rfl
theorem fd_push {f : V → Option (Key × V)} {k : Key} (n : H1 D = none) (I : DcI H1 D (Fd xs f) i H) (e : Ext [] H H4) (h : xs[i]? = some x) (fx : f x = some (k, z)) (ey : y = kV k) (zz : i ≤ 5000) : DcP H1 D (Fd xs f) i y z H4 := by
  obtain ⟨e0, acc, hD, l, r⟩ := I
  refine dcp n (e0.trans e) (e.at0 hD) l zz ey ?_
  have r : acc = merA [] ((xs.take i).filterMap f) := r
  show putK acc k z = merA [] ((xs.take (i + 1)).filterMap f)
  rw [take_next h, List.filterMap_append, r]
  simp [fx, merA_snoc]
theorem fd_skip {f : V → Option (Key × V)} (I : DcI H1 D (Fd xs f) i H) (e : Ext [] H H4) (h : xs[i]? = some x) (fx : f x = none) : DcI H1 D (Fd xs f) (i + 1) H4 := by
  obtain ⟨e0, acc, hD, l, r⟩ := I
  refine ⟨e0.trans e, acc, e.at0 hD, Nat.le_succ_of_le l, ?_⟩
  have r : acc = merA [] ((xs.take i).filterMap f) := r
  show acc = merA [] ((xs.take (i + 1)).filterMap f)
  rw [take_next h, List.filterMap_append, r]
  simp [fx]
end
end K70

/-! K71: is_list, is_whole, is_positive, is_name, is_among. -/
namespace K70
open PySem PySem.Spec PyProof.Rows L2 LamX
section
variable {P : Program} {w : World} {K : PySem.W.Frag} {mg : Str → Option Value} {base : Heap} {CV CG CB : Addr}
/-! ### is_list -/
def spIsList : Sp := fun vs H Q _ => ∃ x s, vs = [x] ∧ Kd H x s ∧ ∀ H', Ext [] H H' → Q (.bl (kb s "list" || kb s "tuple")) H'
abbrev N_is_list : List PySem.Str := ["thing"]
theorem sc_is_list : FnScope N_is_list ["thing"] (defScope (topS 4)) := ⟨rfl, rfl, rfl, by decide +kernel, rfl, by decide +kernel, by decide +kernel⟩
theorem bb_is_list : BindsBy "is_list" (topS 4) ["thing"] := fun _ _ _ _ _ _ us hl => match us, hl with | [_], _ => rfl
theorem ok_is_list (T : Tx P K mg CV CG CB) (D : Df K mg "is_list" (topS 4)) : Cl P w K mg base CX0 1 "is_list" spIsList := by
  refine D.cl0 sc_is_list bb_is_list (fun vs H Q E ⟨x, s, e, _⟩ => by rw [e]; rfl) fun f cdv A outer s H vs Q E hr h => ?_
  have nd := sc_is_list.nd
  obtain ⟨x, k, rfl, hk, q⟩ := h
  refine ⟨_, (pss_one (ps_ret (pe_callB call_isiT (by rfl) T.isinstance bi_isinstance (pa_cons (pv 0) (pa_cons (pe_tup (pa_cons (pe_bltn (v := .ty "list") (by rfl) T.list bi_list rfl) (pa_cons (pe_bltn (v := .ty "tuple") (by rfl) T.tuple bi_tuple rfl) pa_nil))) pa_nil))))), ?_⟩
  exact isi_vlt _ rfl hk q rfl
/-! ### is_whole, is_positive -/
def spWhole : Sp := fun vs H Q _ => ∃ n : Int, vs = [.int n] ∧ Q (.bl true) H
abbrev N_is_whole : List PySem.Str := ["thing"]
theorem sc_is_whole : FnScope N_is_whole ["thing"] (defScope (topS 5)) := ⟨rfl, rfl, rfl, by decide +kernel, rfl, by decide +kernel, by decide +kernel⟩
theorem bb_is_whole : BindsBy "is_whole" (topS 5) ["thing"] := fun _ _ _ _ _ _ us hl => match us, hl with | [_], _ => rfl
theorem ok_is_whole (T : Tx P K mg CV CG CB) (D : Df K mg "is_whole" (topS 5)) : Cl P w K mg base CX0 1 "is_whole" spWhole := by
  refine D.cl0 sc_is_whole bb_is_whole (fun vs H Q E ⟨x, e, _⟩ => by rw [e]; rfl) fun f cdv A outer s H vs Q E hr h => ?_
  have nd := sc_is_whole.nd
  obtain ⟨n, rfl, q⟩ := h
  refine ⟨_, (pss_one (ps_ret (pe_and (pe_callB call_isi (by rfl) T.isinstance bi_isinstance (pa_cons (pv 0) (pa_cons (pe_bltn (v := .ty "int") (by rfl) T.int bi_int rfl) pa_nil))) (pe_one (pe_not (pe_callB call_isi (by rfl) T.isinstance bi_isinstance (pa_cons (pv 0) (pa_cons (pe_bltn (v := .ty "bool") (by rfl) T.bool bi_bool rfl) pa_nil)))))))), ?_⟩
  exact isi_v (c := "int") true rfl (.int n) ⟨_, rfl, iteT (isi_v (c := "bool") false rfl (.int n) ⟨_, rfl, q⟩)⟩
def spPos : Sp := fun vs H Q _ => ∃ n : Int, vs = [.int n] ∧ Q (.bl (decide (1 ≤ n))) H
abbrev N_is_positive : List PySem.Str := ["thing"]
theorem sc_is_positive : FnScope N_is_positive ["thing"] (defScope (topS 6)) := ⟨rfl, rfl, rfl, by decide +kernel, rfl, by decide +kernel, by decide +kernel⟩
theorem bb_is_positive : BindsBy "is_positive" (topS 6) ["thing"] := fun _ _ _ _ _ _ us hl => match us, hl with | [_], _ => rfl
theorem ok_is_positive (T : Tx P K mg CV CG CB) (D : Df K mg "is_positive" (topS 6)) (c_is_whole : Cl P w K mg base CX0 1 "is_whole" spWhole) : Cl P w K mg base CX0 2 "is_positive" spPos := by
  refine D.cl0 sc_is_positive bb_is_positive (fun vs H Q E ⟨x, e, _⟩ => by rw [e]; rfl) fun f cdv A outer s H vs Q E hr h => ?_
  have nd := sc_is_positive.nd
  obtain ⟨n, rfl, q⟩ := h
  refine ⟨_, (pss_one (ps_ret (pe_and (pe_k c_is_whole hr pass0 (pa_cons (pv 0) pa_nil)) (pe_one (pe_cmpR op_ge (pv 0) pe_int (nomark _)))))), ?_⟩
  exact ⟨_, rfl, n, rfl, _, rfl, iteT ⟨_, rfl, _, _, rfl, rfl, q⟩⟩
/-! ### is_among -/
def spAmong : Sp := fun vs H Q _ => ∃ d kvs x, vs = [.ref d, .str x] ∧ H d = some (.dK kvs) ∧ Q (.bl (valV kvs (.inr x)).isSome) H
abbrev N_is_among : List PySem.Str := ["known", "thing"]
theorem sc_is_among : FnScope N_is_among ["known", "thing"] (defScope (topS 8)) := ⟨rfl, rfl, rfl, by decide +kernel, rfl, by decide +kernel, by decide +kernel⟩
theorem bb_is_among : BindsBy "is_among" (topS 8) ["known", "thing"] := fun _ _ _ _ _ _ us hl => match us, hl with | [_, _], _ => rfl
theorem ok_is_among (T : Tx P K mg CV CG CB) (D : Df K mg "is_among" (topS 8)) : Cl P w K mg base CX0 1 "is_among" spAmong := by
  refine D.cl0 sc_is_among bb_is_among (fun vs H Q E ⟨x, _, _, e, _⟩ => by rw [e]; rfl) fun f cdv A outer s H vs Q E hr h => ?_
  have nd := sc_is_among.nd
  obtain ⟨d, kvs, x, rfl, hd, q⟩ := h
  refine ⟨_, (pss_one (ps_ret (pe_and (pe_callB call_isi (by rfl) T.isinstance bi_isinstance (pa_cons (pv 1) (pa_cons (pe_bltn (v := .ty "str") (by rfl) T.str bi_str rfl) pa_nil))) (pe_one (pe_cmp (pc_din (hu_of hr) (pv 1) (pv 0))))))), ?_⟩
  exact isi_v (c := "str") true rfl (.str x) ⟨_, rfl, iteT ⟨_, rfl, _, rfl, d, _, rfl, DGet.k (k := .inr x) hd, q⟩⟩
end
end K70

/-! K72: is_name. -/
namespace K70
open PySem PySem.Spec PyProof.Rows L2 LamX
/-- the sign c stands in the text t -/
abbrev hasC (t : PySem.Str) (c : Nat) : Bool := !(Builtin.Str.occurrences t ⟨#[c]⟩ 0 t.length 1).isEmpty
/-- a name -/
structure IsNm (x : PySem.Str) : Prop where
  lo : 1 ≤ x.length
  hi : x.length ≤ 8
  fst : ∃ c, x.cps[0]? = some c ∧ hasC smallS c = true
  all : ∀ c ∈ x.cps.toList, hasC (smallS ++ figS) c = true
section
variable {P : Program} {w : World} {K : PySem.W.Frag} {mg : Str → Option Value} {base : Heap} {CV CG CB : Addr}
def spName : Sp := fun vs H Q _ => ∃ x, vs = [.str x] ∧ IsNm x ∧ ∀ H', Ext [] H H' → Q (.bl true) H'
abbrev N_is_name : List PySem.Str := ["thing", "sign"]
theorem sc_is_name : FnScope N_is_name ["thing"] (defScope (topS 7)) := ⟨rfl, rfl, rfl, by decide +kernel, rfl, by decide +kernel, by decide +kernel⟩
theorem bb_is_name : BindsBy "is_name" (topS 7) ["thing"] := fun _ _ _ _ _ _ us hl => match us, hl with | [_], _ => rfl
theorem ok_is_name (T : Tx P K mg CV CG CB) (D : Df K mg "is_name" (topS 7)) : Cl P w K mg base CX0 1 "is_name" spName := by
  refine D.cl0 sc_is_name bb_is_name (fun vs H Q E ⟨x, e, _⟩ => by rw [e]; rfl) fun f cdv A outer s H vs Q E hr h => ?_
  have nd := sc_is_name.nd
  obtain ⟨x, rfl, hx, q⟩ := h
  obtain ⟨c0, hc0, hs0⟩ := hx.fst
  have z : x.length ≤ sizeLine := Nat.le_trans hx.hi (by decide)
  have at0 : atI x.cps.toList 0 = some c0 := by
    have l : (0 : Int) < x.cps.toList.length := by
      have := (Array.getElem?_eq_some_iff.mp hc0).1
      simp
      omega
    unfold atI ixN
    rw [if_pos (by decide), if_pos l]
    simp [hc0]
  refine ⟨_, (pss_cons (ps_if ((pw_or (pt_not (pt_val (pe_callB call_isi (by rfl) T.isinstance bi_isinstance (pa_cons (pv 0) (pa_cons (pe_bltn (v := .ty "str") (by rfl) T.str bi_str rfl) pa_nil))))) (pw_or (pt_not (pt_chain op_le op_le pe_int (pe_callB call_len_str (by rfl) T.len bi_len (pa_cons (pv 0) pa_nil)) pe_int)) (pw_or1 (pt_cmpR op_notin_str (pe_ix ix_seq (pv 0) pe_int (fun _ _ => rfl)) (pe_globT (by rfl) T.SMALL) rfl))))).pt (pss_one (ps_ret pe_bl)) pss_nil)
  (pss_one (ps_ret (pe_callB (cr_all rfl) (by rfl) T.all bi_all (pa_cons (pe_lc (own := [("sign", 1)]) (g := gName 1) (tt := tYes) rfl nd (pi_str (pv 0)) (blkOk_by (N := N_is_name) (sc := defScope (topS 7)) (by decide +kernel)) (fun _ _ _ _ _ => (pg_name (i := 1) nd rfl (.inl rfl))) (fun _ _ _ _ _ => pts_nil) (fun _ _ _ _ _ => (pe_cmpR op_in_str (pv 1) (pe_op op_add_str (pe_globT (by rfl) T.SMALL) (pe_globT (by rfl) T.FIGURES)) rfl))) pa_nil))))), ?_⟩
  refine isi_v (c := "str") true rfl (.str x) ⟨_, rfl, ?_⟩
  have h1 : (1 : Int) ≤ (x.length : Int) := by exact_mod_cast hx.lo
  have h8 : (x.length : Int) ≤ 8 := by exact_mod_cast hx.hi
  refine iteF ⟨_, rfl, x, rfl, z, 1, _, rfl, rfl, _, rfl, itB (decide_eq_true h1) ⟨_, _, rfl, rfl, _, rfl, ?_⟩⟩
  refine itN (by rw [decide_eq_true h8]; rfl) ?_
  refine ⟨_, rfl, .inr (.inr ⟨x, 0, c0, rfl, rfl, z, at0, _, _, rfl, rfl, _, rfl, ?_⟩)⟩
  refine itN (congrArg Bool.not hs0) ?_
  refine ⟨_, rfl, x, rfl, fun p hp => ?_⟩
  have nn : x.cps.size ≤ 5000 := Nat.le_trans hx.hi (by decide)
  refine lc_run walk_str (fun _ _ => trivial) hp (fun i acc _ => acc = List.replicate i (.bl true)) rfl (fun i y H2 H3 lt I y3 => ?_) fun acc H2 e hD r => ?_
  · obtain ⟨rfl, c, hc, rfl⟩ := y3
    refine ⟨rfl, _, rfl, _, _, rfl, rfl, by decide +kernel, _, _, rfl, rfl, ?_⟩
    obtain ⟨e0, acc, hD, l, r⟩ := I
    have hc2 : c ∈ x.cps.toList := List.mem_of_getElem? (i := i) (by simpa using hc)
    have hh := hx.all c hc2
    refine lcp hp e0 hD l (by omega) ?_
    show acc ++ [V.bl (hasC (smallS ++ figS) c)] = _
    rw [hh, r, List.replicate_succ']
  · refine ⟨p, List.replicate x.cps.size true, rfl, .inl (.inl ?_), ?_⟩
    · rw [List.map_replicate, ← r]
      exact hD
    · have e2 : (List.replicate x.cps.size true).all id = true := by simp
      rw [e2]
      exact q _ e
end
end K70

/-! K73: the law's source of draws. -/
namespace K70
open PySem PySem.Spec PyProof.Rows L2 LamX
/-- the source at a -/
def Src (H : Hp) (a : Addr) : Prop := ∃ c s t : Int, H a = some (.lst [.int c, .int s, .int t])
theorem Src.ext {L : List Addr} {H H' : Hp} {a : Addr} (h : Src H a) (e : Ext L H H') (n : a ∉ L := by simp) : Src H' a := by
  obtain ⟨c, s, t, h⟩ := h
  exact ⟨c, s, t, e a _ n h⟩
theorem ix_at {K : PySem.W.Frag} {H : Hp} {a : Addr} {xs : List V} {j : Nat} {v : V} {Q : VK} (h : Sx H a xs) (e : xs[j]? = some v) (q : Q v H) : rIx K (.ref a) (.int (j : Nat)) H Q := h.elim (fun h => .inl ⟨a, xs, _, v, rfl, rfl, .inl (.inl h), atI_nat e, q⟩) (fun h => .inr (.inl ⟨a, xs, _, v, rfl, rfl, .inl (.inl h), atI_nat e, q⟩))
theorem p29 : (0 : Int) < 2147483629 := by decide
theorem p47 : (0 : Int) < 2147483647 := by decide
theorem small64p {x m : Int} (m0 : 0 < m) (m1 : m ≤ 4294967296) : (x % m).natAbs < 2 ^ 64 := by
  have a := Int.emod_nonneg x (Int.ne_of_gt m0)
  have b := Int.emod_lt_of_pos x m0
  have c : (x % m).natAbs < 4294967296 := by omega
  exact Nat.lt_of_lt_of_le c (by decide)
section
variable {P : Program} {w : World} {K : PySem.W.Frag} {mg : Str → Option Value} {base : Heap} {CV CG CB : Addr}
def spDraw : Sp := fun vs H Q _ => ∃ a m, vs = [.ref a, .int m] ∧ Src H a ∧ 0 < m ∧ m < 1073741824 ∧ ∀ H' d, Ext [a] H H' → Src H' a → 0 ≤ d → d < m → Q (.int d) H'
abbrev N__law_draw : List PySem.Str := ["_law_source_here", "_law_many", "_law_digit", "_law_seed"]
theorem sc__law_draw : FnScope N__law_draw ["_law_source_here", "_law_many"] (defScope (topS 39)) := ⟨rfl, rfl, rfl, by decide +kernel, rfl, by decide +kernel, by decide +kernel⟩
theorem bb__law_draw : BindsBy "_law_draw" (topS 39) ["_law_source_here", "_law_many"] := fun _ _ _ _ _ _ us hl => match us, hl with | [_, _], _ => rfl
theorem ok_draw (T : Tx P K mg CV CG CB) (D : Df K mg "_law_draw" (topS 39)) : Cl P w K mg base CX0 1 "_law_draw" spDraw := by
  refine D.cl0 sc__law_draw bb__law_draw (fun vs H Q E ⟨x, _, e, _⟩ => by rw [e]; rfl) fun f cdv A outer s H vs Q E hr h => ?_
  have nd := sc__law_draw.nd
  obtain ⟨a, m, rfl, ⟨c, sd, t, ha⟩, m0, m1, q⟩ := h
  refine ⟨_, (pss_cons (ps_if (pt_cmpR op_gt (pe_ix ix_seq (pv 0) pe_int (fun _ _ => rfl)) pe_int (nomark _)) (pss_cons (ps_set (i := 2) nd rfl (.inl rfl) (pe_op op_mod (pe_callTy call_int1 (by rfl) T.int bi_int (pa_cons (pe_ix ix_seq (pv 0) pe_int (fun _ _ => rfl)) pa_nil)) (pv 1)))
  (pss_cons (ps_asg (pe_op op_fdiv (pe_ix ix_seq (pv 0) pe_int (fun _ _ => rfl)) (pv 1)) (pg_sub (pv 0) pe_int set_list))
  (pss_one (ps_ret (pv 2))))) pss_nil)
  (pss_cons (ps_asg (pe_op op_add (pe_ix ix_seq (pv 0) pe_int (fun _ _ => rfl)) pe_int) (pg_sub (pv 0) pe_int set_list))
  (pss_cons (ps_set (i := 3) nd rfl (.inl rfl) (pe_op op_mod (pe_callTy call_int1 (by rfl) T.int bi_int (pa_cons (pe_op op_add (pe_ix ix_seq (pv 0) pe_int (fun _ _ => rfl)) (pe_op op_mul pe_int (pe_ix ix_seq (pv 0) pe_int (fun _ _ => rfl)))) pa_nil)) pe_int))
  (pss_cons (ps_set (i := 3) nd rfl (.inl rfl) (pe_op op_mod (pe_callTy call_int1 (by rfl) T.int bi_int (pa_cons (pe_op op_add (pe_op op_pow (pv 3) pe_int) (pe_ix ix_seq (pv 0) pe_int (fun _ _ => rfl))) pa_nil)) pe_int))
  (pss_one (ps_ret (pe_op op_mod (pe_op op_fdiv (pe_op op_mod (pe_callTy call_int1 (by rfl) T.int bi_int (pa_cons (pe_op op_add (pe_op op_mul (pv 3) pe_int) (pe_op op_mul pe_int (pe_ix ix_seq (pv 0) pe_int (fun _ _ => rfl)))) pa_nil)) pe_int) pe_int) (pv 1)))))))), ?_⟩
  refine ⟨_, rfl, ix_at (j := 0) (.inl ha) rfl ⟨_, _, rfl, rfl, _, rfl, ?_⟩⟩
  by_cases hc : 0 < c
  · refine itB (decide_eq_true hc) ?_
    refine ⟨_, rfl, ix_at (j := 0) (.inl ha) rfl (.inl ⟨c, rfl, _, rfl, _, _, rfl, rfl, m0, ?_⟩)⟩
    refine ⟨_, rfl, ix_at (j := 0) (.inl ha) rfl ⟨_, rfl, _, _, rfl, rfl, ⟨m0, m1⟩, ?_⟩⟩
    refine ⟨_, rfl, a, _, 0, 0, rfl, rfl, ha, rfl, _, rfl, ?_⟩
    exact q _ _ (Ext.rfl.putL (by simp)) ⟨_, _, _, upd_same⟩ (Int.emod_nonneg _ (Int.ne_of_gt m0)) (Int.emod_lt_of_pos _ m0)
  · refine itN (decide_eq_false hc) ?_
    refine ⟨_, rfl, ix_at (j := 2) (.inl ha) rfl ⟨_, _, rfl, rfl, _, rfl, a, _, 2, 2, rfl, rfl, ha, rfl, ?_⟩⟩
    have h2 : upd H a (.lst ([.int c, .int sd, .int t].set 2 (.int (t + 1)))) a = some (.lst [.int c, .int sd, .int (t + 1)]) := upd_same
    have e2 : Ext [a] H (upd H a (.lst ([.int c, .int sd, .int t].set 2 (.int (t + 1))))) := Ext.rfl.putL (by simp)
    revert h2 e2
    generalize upd H a (.lst ([.int c, .int sd, .int t].set 2 (.int (t + 1)))) = H2
    intro h2 e2
    refine ⟨_, rfl, ix_at (j := 1) (.inl h2) rfl ⟨_, rfl, ix_at (j := 2) (.inl h2) rfl ⟨_, _, rfl, rfl, .inl ⟨by decide, by decide⟩, _, _, rfl, rfl, .inl ⟨_, rfl, _, _, rfl, rfl, p29, ?_⟩⟩⟩⟩
    refine ⟨_, rfl, _, _, rfl, rfl, ⟨by decide, by decide, small64p p29 (by decide)⟩, ?_⟩
    refine ⟨_, rfl, ix_at (j := 2) (.inl h2) rfl ⟨_, _, rfl, rfl, .inl ⟨_, rfl, _, _, rfl, rfl, p47, ?_⟩⟩⟩
    refine ⟨_, rfl, _, _, rfl, rfl, .inr ⟨by decide, by decide⟩, _, rfl, ix_at (j := 2) (.inl h2) rfl ⟨_, _, rfl, rfl, .inl ⟨by decide, by decide⟩, _, _, rfl, rfl, .inl ⟨_, rfl, _, _, rfl, rfl, p29, _, _, rfl, rfl, ⟨by decide, by decide⟩, _, rfl, _, _, rfl, rfl, m0, ?_⟩⟩⟩
    exact q _ _ e2 ⟨_, _, _, h2⟩ (Int.emod_nonneg _ (Int.ne_of_gt m0)) (Int.emod_lt_of_pos _ m0)
end
end K70

/-! K74: cells, sources, picks, mixes. -/
namespace K70
open PySem PySem.Spec PyProof.Rows L2 LamX
section
variable {P : Program} {w : World} {K : PySem.W.Frag} {mg : Str → Option Value} {base : Heap} {CV CG CB : Addr}
def spCell (K : PySem.W.Frag) : Sp := fun vs H Q _ => ∃ (a : Addr) (k : Nat) (ns : List Int), vs = [.ref a, .int (k : Nat)] ∧ SqL K H a (ns.map .int) ∧ ∀ j : Int, Q (.int j) H
abbrev N__law_cell : List PySem.Str := ["_law_script", "_law_k"]
theorem sc__law_cell : FnScope N__law_cell ["_law_script", "_law_k"] (defScope (topS 37)) := ⟨rfl, rfl, rfl, by decide +kernel, rfl, by decide +kernel, by decide +kernel⟩
theorem bb__law_cell : BindsBy "_law_cell" (topS 37) ["_law_script", "_law_k"] := fun _ _ _ _ _ _ us hl => match us, hl with | [_, _], _ => rfl
theorem ok_cell (T : Tx P K mg CV CG CB) (D : Df K mg "_law_cell" (topS 37)) : Cl P w K mg base CX0 1 "_law_cell" (spCell K) := by
  refine D.cl0 sc__law_cell bb__law_cell (fun vs H Q E ⟨x, _, _, e, _⟩ => by rw [e]; rfl) fun f cdv A outer s H vs Q E hr h => ?_
  have nd := sc__law_cell.nd
  obtain ⟨a, k, ns, rfl, ha, q⟩ := h
  refine ⟨_, (pss_one (ps_ret (pe_ifExp (pt_cmpR op_lt (pv 1) (pe_callB call_len_seq (by rfl) T.len bi_len (pa_cons (pv 0) pa_nil)) (nomark _)) (pe_ix ix_seq (pv 0) (pv 1) (fun _ _ => rfl)) (pe_op op_mod (pe_callTy call_int1 (by rfl) T.int bi_int (pa_cons (pe_op op_add (pe_op op_add (pe_op op_mul (pe_callB (cr_sum rfl) (by rfl) T.sum bi_sum (pa_cons (pv 0) pa_nil)) pe_int) (pe_op op_mul pe_int (pv 1))) pe_int) pa_nil)) pe_int)))), ?_⟩
  refine ⟨_, rfl, _, rfl, a, _, rfl, .inl ha, _, _, rfl, rfl, _, rfl, ?_⟩
  by_cases hk : (k : Int) < ((ns.map V.int).length : Nat)
  · refine itB (decide_eq_true hk) ?_
    have lt : k < ns.length := by simpa using hk
    refine ⟨_, rfl, _, rfl, .inl ⟨a, _, _, .int ns[k], rfl, rfl, ha, atI_nat ?_, q _⟩⟩
    simp [lt]
  · refine itN (decide_eq_false hk) ?_
    exact ⟨_, rfl, a, ns, rfl, ha, _, _, rfl, rfl, .inr ⟨by decide, by decide⟩, _, rfl, _, _, rfl, rfl, .inl ⟨by decide, by decide⟩, _, _, rfl, rfl, _, _, rfl, rfl, .inl ⟨_, rfl, _, _, rfl, rfl, (by show (0 : Int) < 1000003; decide), q _⟩⟩
def spSource (K : PySem.W.Frag) : Sp := fun vs H Q _ => ∃ (a : Addr) (k : Nat) (ns : List Int), vs = [.ref a, .int (k : Nat)] ∧ SqL K H a (ns.map .int) ∧ ∀ p H', H p = none → Ext [] H H' → Src H' p → Q (.ref p) H'
abbrev N__law_source : List PySem.Str := ["_law_script", "_law_k", "_law_cell_here", "_law_seed", "_law_one"]
theorem sc__law_source : FnScope N__law_source ["_law_script", "_law_k"] (defScope (topS 38)) := ⟨rfl, rfl, rfl, by decide +kernel, rfl, by decide +kernel, by decide +kernel⟩
theorem bb__law_source : BindsBy "_law_source" (topS 38) ["_law_script", "_law_k"] := fun _ _ _ _ _ _ us hl => match us, hl with | [_, _], _ => rfl
theorem ok_source (T : Tx P K mg CV CG CB) (D : Df K mg "_law_source" (topS 38)) (c__law_cell : Cl P w K mg base CX0 1 "_law_cell" (spCell K)) : Cl P w K mg base CX0 2 "_law_source" (spSource K) := by
  refine D.cl0 sc__law_source bb__law_source (fun vs H Q E ⟨x, _, _, e, _⟩ => by rw [e]; rfl) fun f cdv A outer s H vs Q E hr h => ?_
  have nd := sc__law_source.nd
  obtain ⟨a, k, ns, rfl, ha, q⟩ := h
  refine ⟨_, (pss_cons (ps_par (i := 2) (j := 3) rfl nd rfl rfl (by decide) rfl rfl (pa_cons (pe_callB call_abs (by rfl) T.abs bi_abs (pa_cons (pe_k c__law_cell hr pass0 (pa_cons (pv 0) (pa_cons (pv 1) pa_nil))) pa_nil)) (pa_cons (pe_op op_add pe_int (pe_op op_mul pe_int (pv 1))) pa_nil)) rfl)
  (pss_cons (ps_for PassesOwn.never rfl (pi_seq (pe_slice sl_list (pv 0) po_none (po_some pe_int))) (pg_name (i := 4) nd rfl (.inl rfl))
    (pss_one (ps_set (i := 3) nd rfl (.inl rfl) (pe_op op_mod (pe_callTy call_int1 (by rfl) T.int bi_int (pa_cons (pe_op op_add (pe_op op_add (pe_op op_mul (pv 3) pe_int) (pe_op op_mod (pe_callTy call_int1 (by rfl) T.int bi_int (pa_cons (pv 4) pa_nil)) pe_int)) pe_int) pa_nil)) pe_int))))
  (pss_one (ps_ret (pe_lst (pa_cons (pe_ifExp (pt_cmpR op_ge (pv 2) (pe_op op_pow pe_int pe_int) (nomark _)) (pv 2) pe_int) (pa_cons (pe_op op_mod (pe_callTy call_int1 (by rfl) T.int bi_int (pa_cons (pe_op op_add (pe_op op_add (pv 3) (pe_op op_mul (pv 2) pe_int)) (pe_op op_mul pe_int (pv 1))) pa_nil)) pe_int) (pa_cons pe_int pa_nil)))))))), ?_⟩
  refine ⟨_, rfl, _, rfl, a, k, ns, rfl, ha, fun c => ⟨c, rfl, _, rfl, _, _, rfl, rfl, .inl ⟨by decide, by decide⟩, _, _, rfl, rfl, _, _, rfl, ?_⟩⟩
  generalize hc : (if c < 0 then -c else c) = c1
  refine ⟨_, rfl, 63, rfl, a, _, rfl, ha, fun p hp => ⟨p, _, rfl, .inl (.inl (.inl upd_same)), fun J G g0 gE wk => ?_⟩⟩
  have e1 : Ext [] H (upd H p (.lst (cutV (ns.map V.int) none (some 63)))) := ext_new hp
  have hz : ∀ (i : Nat) (x : V), (cutV (ns.map V.int) none (some 63))[i]? = some x → ∃ j, x = .int j := fun i x e => by
    have m := List.mem_of_getElem? e
    obtain ⟨j, _, rfl⟩ := List.mem_map.mp (List.mem_of_mem_drop (List.mem_of_mem_take m))
    exact ⟨j, rfl⟩
  refine for_it wk (fun _ τ G => ∃ sd : Int, τ[0]? = some (some (.ref a)) ∧ τ[1]? = some (some (.int (k : Nat))) ∧ τ[2]? = some (some (.int c1)) ∧ τ[3]? = some (some (.int sd)) ∧ τ.length = 5 ∧ G = upd H p (.lst (cutV (ns.map V.int) none (some 63)))) ⟨_, rfl, rfl, rfl, rfl, rfl, rfl⟩
    (fun i τ G _ ⟨_, _, _, _, _, _, e⟩ => by rw [e]; exact g0) (fun i x τ G G' lt I y => ?_) (fun τ G I => ?_)
  · obtain ⟨sd, t0, t1, t2, t3, tl, e⟩ := I
    obtain ⟨rfl, hx⟩ := y
    obtain ⟨j, rfl⟩ := hz i x hx
    have t3' : (τ.set 4 (some (.int j)))[3]? = some (some (.int sd)) := by rw [List.getElem?_set_ne (by decide)]; exact t3
    have t4' : (τ.set 4 (some (.int j)))[4]? = some (some (.int j)) := by rw [List.getElem?_set_self (by omega)]
    refine ⟨_, t3', _, _, rfl, rfl, .inr ⟨by decide, by decide⟩, _, t4', .inl ⟨j, rfl, _, _, rfl, rfl, p29, _, _, rfl, rfl, _, _, rfl, rfl, .inl ⟨_, rfl, _, _, rfl, rfl, p47, ?_⟩⟩⟩
    refine ⟨_, ?_, ?_, ?_, List.getElem?_set_self (by simp [tl]), by simp [tl], e⟩
    · rw [List.getElem?_set_ne (by decide), List.getElem?_set_ne (by decide)]; exact t0
    · rw [List.getElem?_set_ne (by decide), List.getElem?_set_ne (by decide)]; exact t1
    · rw [List.getElem?_set_ne (by decide), List.getElem?_set_ne (by decide)]; exact t2
  · obtain ⟨sd, t0, t1, t2, t3, tl, e⟩ := I
    subst e
    refine ⟨_, t2, _, _, rfl, rfl, ⟨by decide, by decide, by decide⟩, _, _, rfl, rfl, _, rfl, ite2 (fun _ => ⟨_, t2, ?_⟩) fun _ => ?_⟩
    all_goals
      refine ⟨_, t3, _, t2, _, _, rfl, rfl, .inr ⟨by decide, by decide⟩, _, _, rfl, rfl, _, t1, _, _, rfl, rfl, .inl ⟨by decide, by decide⟩, _, _, rfl, rfl, .inl ⟨_, rfl, _, _, rfl, rfl, p29, by show 3 ≤ sizeLine; decide, fun p' hp' => ?_⟩⟩
      exact q p' _ (e1.free0 hp') (e1.new hp') ⟨_, _, _, upd_same⟩
def spPick : Sp := fun vs H Q _ => ∃ a l xs, vs = [.ref a, .ref l] ∧ Src H a ∧ l ≠ a ∧ H l = some (.lst xs) ∧ 0 < xs.length ∧ xs.length ≤ 5000 ∧ ∀ H' x, Ext [a] H H' → Src H' a → x ∈ xs → Q x H'
abbrev N__law_pick : List PySem.Str := ["_law_source_here", "_law_some"]
theorem sc__law_pick : FnScope N__law_pick ["_law_source_here", "_law_some"] (defScope (topS 40)) := ⟨rfl, rfl, rfl, by decide +kernel, rfl, by decide +kernel, by decide +kernel⟩
theorem bb__law_pick : BindsBy "_law_pick" (topS 40) ["_law_source_here", "_law_some"] := fun _ _ _ _ _ _ us hl => match us, hl with | [_, _], _ => rfl
theorem ok_pick (T : Tx P K mg CV CG CB) (D : Df K mg "_law_pick" (topS 40)) (c__law_draw : Cl P w K mg base CX0 1 "_law_draw" spDraw) : Cl P w K mg base CX0 2 "_law_pick" spPick := by
  refine D.cl0 sc__law_pick bb__law_pick (fun vs H Q E ⟨x, _, _, e, _⟩ => by rw [e]; rfl) fun f cdv A outer s H vs Q E hr h => ?_
  have nd := sc__law_pick.nd
  obtain ⟨a, l, xs, rfl, ha, ne, hl, n0, n1, q⟩ := h
  refine ⟨_, (pss_one (ps_ret (pe_ix ix_seq (pv 1) (pe_k c__law_draw hr pass0 (pa_cons (pv 0) (pa_cons (pe_callB call_len_seq (by rfl) T.len bi_len (pa_cons (pv 1) pa_nil)) pa_nil))) (fun _ _ => rfl)))), ?_⟩
  refine ⟨_, rfl, _, rfl, _, rfl, l, xs, rfl, .inl (.inl (.inl hl)), a, _, rfl, ha, by omega, by omega, fun H' d e sr d0 d1 => ?_⟩
  obtain ⟨j, rfl⟩ := Int.eq_ofNat_of_zero_le d0
  have lt : j < xs.length := by omega
  exact ix_at (.inl (e.at1 ne hl)) (List.getElem?_eq_getElem lt) (q H' _ e sr (List.getElem_mem lt))
end
end K70

/-! K75: mixed, loose. -/
namespace K70
open PySem PySem.Spec PyProof.Rows L2 LamX
theorem sxi {d n : Nat} (h : d < n) : seqIndex? (d : Int) n = some d := by
  unfold seqIndex?
  simp
  omega
theorem tyl {K : PySem.W.Frag} {H : Hp} {p : Addr} {xs : List V} (h : H p = some (.lst xs)) : tyV K "list" (.ref p) H := .inl ⟨rfl, _, .inl (.inl h)⟩
theorem perm_cut {α : Type} : ∀ {zs : List α} {k : Nat} {y : α}, zs[k]? = some y → (y :: zs.eraseIdx k).Perm zs
  | [], _, _, h => by simp at h
  | z :: zs, 0, y, h => by
    simp at h
    subst h
    exact .refl _
  | z :: zs, k + 1, y, h => by
    have ih := perm_cut (zs := zs) (k := k) (y := y) (by simpa using h)
    show (y :: z :: zs.eraseIdx k).Perm (z :: zs)
    exact (List.Perm.swap z y _).trans (ih.cons z)
theorem perm_step {α : Type} {xs ys zs : List α} {k : Nat} {y : α} (h : (ys ++ zs).Perm xs) (e : zs[k]? = some y) : ((ys ++ [y]) ++ zs.eraseIdx k).Perm xs := by
  refine List.Perm.trans ?_ h
  rw [List.append_assoc]
  refine List.Perm.append_left ys ?_
  exact perm_cut e
section
variable {P : Program} {w : World} {K : PySem.W.Frag} {mg : Str → Option Value} {base : Heap} {CV CG CB : Addr}
def spMixed : Sp := fun vs H Q _ => ∃ a l xs, vs = [.ref a, .ref l] ∧ Src H a ∧ Sx H l xs ∧ l ≠ a ∧ xs.length ≤ 1000 ∧ ∀ H' p ys, Ext [a] H H' → Src H' a → H p = none → H' p = some (.lst ys) → ys.Perm xs → Q (.ref p) H'
abbrev N__law_mixed : List PySem.Str := ["_law_source_here", "_law_some", "_law_left", "_law_found", "_law_k"]
theorem sc__law_mixed : FnScope N__law_mixed ["_law_source_here", "_law_some"] (defScope (topS 41)) := ⟨rfl, rfl, rfl, by decide +kernel, rfl, by decide +kernel, by decide +kernel⟩
theorem bb__law_mixed : BindsBy "_law_mixed" (topS 41) ["_law_source_here", "_law_some"] := fun _ _ _ _ _ _ us hl => match us, hl with | [_, _], _ => rfl
theorem ok_mixed (T : Tx P K mg CV CG CB) (D : Df K mg "_law_mixed" (topS 41)) (c__law_draw : Cl P w K mg base CX0 1 "_law_draw" spDraw) : Cl P w K mg base CX0 2 "_law_mixed" spMixed := by
  refine D.cl0 sc__law_mixed bb__law_mixed (fun vs H Q E ⟨x, _, _, e, _⟩ => by rw [e]; rfl) fun f cdv A outer s H vs Q E hr h => ?_
  have nd := sc__law_mixed.nd
  obtain ⟨a, l, xs, rfl, ha, hl, ne, n1, q⟩ := h
  refine ⟨_, (pss_cons (ps_par (i := 2) (j := 3) rfl nd rfl rfl (by decide) rfl rfl (pa_cons (pe_callTy call_list_of (by rfl) T.list bi_list (pa_cons (pv 1) pa_nil)) (pa_cons (pe_lst pa_nil) pa_nil)) rfl)
  (pss_cons (ps_for PassesOwn.never rfl (pi_range1 (by rfl) T.range (pa_cons (pe_callB call_len_seq (by rfl) T.len bi_len (pa_cons (pv 1) pa_nil)) pa_nil)) (pg_name (i := 4) nd rfl (.inl rfl))
    (pss_one (ps_expr (pe_bm PySem.F.plainAttrs_list PySem.F.slot_list_append PySem.F.type_list_append mt_append (pv 3) (pa_cons (pe_bm PySem.F.plainAttrs_list PySem.F.slot_list_pop PySem.F.type_list_pop mt_popAt (pv 2) (pa_cons (pe_k c__law_draw hr pass0 (pa_cons (pv 0) (pa_cons (pe_callB call_len_seq (by rfl) T.len bi_len (pa_cons (pv 2) pa_nil)) pa_nil))) pa_nil)) pa_nil)))))
  (pss_one (ps_ret (pv 3))))), ?_⟩
  refine ⟨_, rfl, l, xs, rfl, hl.sqE, fun p1 h1 => ⟨Nat.zero_le _, fun p2 h2 => ⟨_, _, rfl, ?_⟩⟩⟩
  have ne12 : p1 ≠ p2 := ne_of_none upd_same h2
  have h2' : H p2 = none := (ext_new (L := []) h1).free0 h2
  have e0 : Ext [a] H (upd (upd H p1 (.lst xs)) p2 (.lst [])) := (ext_new h1).new h2
  have at1 : upd (upd H p1 (.lst xs)) p2 (.lst []) p1 = some (.lst xs) := by rw [upd_ne ne12]; exact upd_same
  have at2 : upd (upd H p1 (.lst xs)) p2 (.lst []) p2 = some (.lst []) := upd_same
  have na1 : p1 ≠ a := fun z => by obtain ⟨_, _, _, y⟩ := ha; rw [← z, h1] at y; cases y
  have na2 : p2 ≠ a := fun z => by obtain ⟨_, _, _, y⟩ := ha; rw [← z, h2'] at y; cases y
  have sr0 : Src (upd (upd H p1 (.lst xs)) p2 (.lst [])) a := by
    obtain ⟨c, sd, t, y⟩ := ha
    exact ⟨c, sd, t, by rw [upd_ne (Ne.symm na2), upd_ne (Ne.symm na1)]; exact y⟩
  revert e0 at1 at2 sr0
  generalize upd (upd H p1 (.lst xs)) p2 (.lst []) = G0
  intro e0 at1 at2 sr0
  refine ⟨_, rfl, l, xs, rfl, (hl.ext e0 (by simpa using ne)).sqE, _, rfl, by omega, by omega, ?_⟩
  have en : ((xs.length : Nat) : Int).toNat = xs.length := Int.toNat_natCast _
  rw [en]
  refine for_range (fun i τ G => ∃ ys zs, τ[0]? = some (some (.ref a)) ∧ τ[2]? = some (some (.ref p1)) ∧ τ[3]? = some (some (.ref p2)) ∧ Ext [a] H G ∧ Src G a ∧ G p1 = some (.lst zs) ∧ G p2 = some (.lst ys) ∧ (ys ++ zs).Perm xs ∧ ys.length = i)
    ⟨[], xs, rfl, rfl, rfl, e0, sr0, at1, at2, .refl _, rfl⟩ (fun i τ G lt I => ?_) fun τ G I => ?_
  · obtain ⟨ys, zs, t0, t2, t3, e, sr, g1, g2, pm, li⟩ := I
    have nz : zs.length = xs.length - i := by
      have := pm.length_eq
      rw [List.length_append] at this
      omega
    have s0 : (τ.set 4 (some (.int (0 + i))))[0]? = some (some (.ref a)) := by rw [List.getElem?_set_ne (by decide)]; exact t0
    have s2 : (τ.set 4 (some (.int (0 + i))))[2]? = some (some (.ref p1)) := by rw [List.getElem?_set_ne (by decide)]; exact t2
    have s3 : (τ.set 4 (some (.int (0 + i))))[3]? = some (some (.ref p2)) := by rw [List.getElem?_set_ne (by decide)]; exact t3
    refine ⟨_, s3, tyl g2, _, s2, tyl g1, _, s0, _, s2, p1, zs, rfl, .inl (.inl (.inl g1)), a, _, rfl, sr, by omega, by omega, fun H' d e' sr' d0 d1 => ?_⟩
    obtain ⟨j, rfl⟩ := Int.eq_ofNat_of_zero_le d0
    have lt2 : j < zs.length := by omega
    have g1' := e'.at1 na1 g1
    have g2' := e'.at1 na2 g2
    have ne21 : p2 ≠ p1 := Ne.symm ne12
    refine ⟨p1, zs, _, j, zs[j], rfl, rfl, g1', by omega, by omega, sxi lt2, List.getElem?_eq_getElem lt2, p2, ys, _, rfl, rfl, by rw [upd_ne ne21]; exact g2', lenZ (by omega), ?_⟩
    refine ⟨ys ++ [zs[j]], zs.eraseIdx j, s0, s2, s3, ?_, ?_, ?_, upd_same, perm_step pm (List.getElem?_eq_getElem lt2), by simp [li]⟩
    · exact ((e.trans e').put h1).put h2'
    · obtain ⟨c, sd, t, y⟩ := sr'
      exact ⟨c, sd, t, by rw [upd_ne (Ne.symm na2), upd_ne (Ne.symm na1)]; exact y⟩
    · rw [upd_ne ne12]
      exact upd_same
  · obtain ⟨ys, zs, t0, t2, t3, e, sr, g1, g2, pm, li⟩ := I
    have zz : zs = [] := by
      have := pm.length_eq
      rw [List.length_append] at this
      exact List.eq_nil_of_length_eq_zero (by omega)
    rw [zz, List.append_nil] at pm
    exact ⟨_, t3, q G p2 ys e sr h2' g2 pm⟩
/-! ### loose -/
/-- what loose makes of a thing that A tells by k is told by k again; L: addresses it stays off -/
def spLoG {κ : Type} (A : List Addr → Hp → V → κ → Prop) : Sp := fun vs H Q _ => ∃ a L x k, vs = [.ref a, x] ∧ a ∈ L ∧ (∀ b ∈ L, H b ≠ none) ∧ Src H a ∧ A L H x k ∧ ∀ H' y, Ext [a] H H' → Src H' a → A L H' y k → Q y H'
def AtmA (L : List Addr) (H : Hp) (x k : V) : Prop := x = k ∧ ((∃ z, x = .str z) ∨ ∃ i, x = .int i)
def Up {κ : Type} (A : List Addr → Hp → V → κ → Prop) (L : List Addr) (H : Hp) (v : V) (ks : List κ) : Prop := ∃ b vs, v = .ref b ∧ b ∉ L ∧ Sx H b vs ∧ vs.length ≤ 1000 ∧ Paired (A L H) vs ks
structure Stb {κ : Type} (A : List Addr → Hp → V → κ → Prop) : Prop where
  ext : ∀ L H H' x k, Ext L H H' → A L H x k → A L H' x k
  new : ∀ L H x k D, H D = none → A L H x k → A (D :: L) H x k
  sub : ∀ L M H x k, (∀ b, b ∈ M → b ∈ L) → A L H x k → A M H x k
theorem stb_atm : Stb AtmA := ⟨fun _ _ _ _ _ _ h => h, fun _ _ _ _ _ _ h => h, fun _ _ _ _ _ _ h => h⟩
theorem pair_map {α β : Type} {F G : α → β → Prop} {l₁ : List α} {l₂ : List β} (h : Paired F l₁ l₂) (f : ∀ a b, F a b → G a b) : Paired G l₁ l₂ := Paired.mapP h f
theorem pair_snoc {α β : Type} {F : α → β → Prop} : ∀ {l₁ : List α} {l₂ : List β} {x : α} {y : β}, Paired F l₁ l₂ → F x y → Paired F (l₁ ++ [x]) (l₂ ++ [y])
  | _, _, _, _, .nil, r => .cons r .nil
  | _, _, _, _, .cons q t, r => .cons q (pair_snoc t r)
theorem Stb.up {κ : Type} {A : List Addr → Hp → V → κ → Prop} (h : Stb A) : Stb (Up A) where
  ext := fun L H H' x k e ⟨b, vs, e1, ne, sx, n, p⟩ => ⟨b, vs, e1, ne, sx.ext e ne, n, pair_map p fun x k y => h.ext L H H' x k e y⟩
  new := fun L H x k D hD ⟨b, vs, e1, ne, sx, n, p⟩ => ⟨b, vs, e1, fun z => (List.mem_cons.mp z).elim (sx.ne_none hD) ne, sx, n, pair_map p fun x k y => h.new L H x k D hD y⟩
  sub := fun L M H x k s ⟨b, vs, e1, ne, sx, n, p⟩ => ⟨b, vs, e1, fun z => ne (s b z), sx, n, pair_map p fun x k y => h.sub L M H x k s y⟩
abbrev N__law_loose : List PySem.Str := ["_law_source_here", "_law_thing", "_law_found", "_law_part"]
theorem sc__law_loose : FnScope N__law_loose ["_law_source_here", "_law_thing"] (defScope (topS 43)) := ⟨rfl, rfl, rfl, by decide +kernel, rfl, by decide +kernel, by decide +kernel⟩
theorem bb__law_loose : BindsBy "_law_loose" (topS 43) ["_law_source_here", "_law_thing"] := fun _ _ _ _ _ _ us hl => match us, hl with | [_, _], _ => rfl
theorem ok_lo0 (T : Tx P K mg CV CG CB) (D : Df K mg "_law_loose" (topS 43)) (c__law_draw : Cl P w K mg base CX0 1 "_law_draw" spDraw) : Cl P w K mg base CX0 1 "_law_loose" (spLoG AtmA) := by
  refine D.cl0 sc__law_loose bb__law_loose (fun vs H Q E ⟨x, _, _, _, e, _⟩ => by rw [e]; rfl) fun f cdv A outer s H vs Q E hr h => ?_
  have nd := sc__law_loose.nd
  obtain ⟨a, L, x, k, rfl, _, _, ha, ⟨rfl, hx⟩, q⟩ := h
  refine ⟨_, (pss_cons (ps_if (pt_not (pt_val (pe_callB call_isiT (by rfl) T.isinstance bi_isinstance (pa_cons (pv 1) (pa_cons (pe_tup (pa_cons (pe_bltn (v := .ty "list") (by rfl) T.list bi_list rfl) (pa_cons (pe_bltn (v := .ty "tuple") (by rfl) T.tuple bi_tuple rfl) pa_nil))) pa_nil))))) (pss_one (ps_ret (pv 1))) pss_nil) pss_never), ?_⟩
  have fin : ∀ H', Ext [] H H' → Q x H' := fun H' e => q H' x e.of0 (ha.ext e) ⟨rfl, hx⟩
  rcases hx with ⟨z, rfl⟩ | ⟨i, rfl⟩
  · exact isi_vlt false rfl (.str z) (fun H' e => ⟨_, rfl, _, rfl, fin H' e⟩)
  · exact isi_vlt false rfl (.int i) (fun H' e => ⟨_, rfl, _, rfl, fin H' e⟩)
theorem Src.ne {H : Hp} {a : Addr} (h : Src H a) : H a ≠ none := fun z => by
  obtain ⟨_, _, _, y⟩ := h
  rw [z] at y
  cases y
theorem Src.off {H : Hp} {a D : Addr} {o : HO} (h : Src H a) (n : D ≠ a) : Src (upd H D o) a := by
  obtain ⟨c, sd, t, y⟩ := h
  exact ⟨c, sd, t, by rw [upd_ne (Ne.symm n)]; exact y⟩
theorem Ext.dom {a : Addr} {H H' : Hp} {L : List Addr} (e : Ext [a] H H') (sr : Src H' a) (h : ∀ b ∈ L, H b ≠ none) : ∀ b ∈ L, H' b ≠ none := fun b hb z => by
  by_cases n : b = a
  · rw [n] at z
    exact sr.ne z
  · cases y : H b with
    | none => exact h b hb y
    | some o =>
      rw [e.at1 n y] at z
      cases z
theorem ok_loS {κ : Type} {Ak : List Addr → Hp → V → κ → Prop} {j : Nat} (sA : Stb Ak) (T : Tx P K mg CV CG CB) (D : Df K mg "_law_loose" (topS 43)) (c__law_draw : Cl P w K mg base CX0 1 "_law_draw" spDraw) (c__law_loose : Cl P w K mg base CX0 (j + 1) "_law_loose" (spLoG Ak)) :
    Cl P w K mg base CX0 (j + 2) "_law_loose" (spLoG (Up Ak)) := by
  refine D.cl0 sc__law_loose bb__law_loose (fun vs H Q E ⟨x, _, _, _, e, _⟩ => by rw [e]; rfl) fun f cdv A outer s H vs Q E hr h => ?_
  have nd := sc__law_loose.nd
  have lv1 : 1 ≤ j + 1 := by omega
  obtain ⟨a, L, x, ks, rfl, aL, dom, ha, ⟨b, vs, rfl, nb, hb, nv, pr⟩, q⟩ := h
  refine ⟨_, (pss_cons (ps_if (pt_not (pt_val (pe_callB call_isiT (by rfl) T.isinstance bi_isinstance (pa_cons (pv 1) (pa_cons (pe_tup (pa_cons (pe_bltn (v := .ty "list") (by rfl) T.list bi_list rfl) (pa_cons (pe_bltn (v := .ty "tuple") (by rfl) T.tuple bi_tuple rfl) pa_nil))) pa_nil))))) (pss_one (ps_ret (pv 1))) pss_nil)
  (pss_cons (ps_setLc (i := 2) (own := [("_law_part", 3)]) (g := gName 3) (tt := tYes) rfl nd rfl rfl (sw_true rfl rfl rfl (by decide +kernel)) (pi_seq (pv 1)) (blkOk_by (N := N__law_loose) (sc := defScope (topS 43)) (by decide +kernel)) (fun _ _ _ _ _ => (pg_name (i := 3) nd rfl (.inl rfl))) (fun _ _ _ _ _ => pts_nil) (fun _ _ _ _ _ => (pe_k c__law_loose hr pass0 (pa_cons (pv 0) (pa_cons (pv 3) pa_nil)))))
  (pss_one (ps_ret (pe_ifExp (pt_cmpR op_eq (pe_k c__law_draw hr pass0 (pa_cons (pv 0) (pa_cons pe_int pa_nil))) pe_int (nomark _)) (pv 2) (pe_callTy call_tuple_of (by rfl) T.tuple bi_tuple (pa_cons (pv 2) pa_nil))))))), ?_⟩
  obtain ⟨kd, hk, kb1, _⟩ := hb.kd
  refine isi_vlt true rfl hk (fun H1 e1 => ⟨_, rfl, ?_⟩) kb1
  have hb1 := hb.ext e1
  have ha1 := ha.ext e1
  have dom1 : ∀ b ∈ L, H1 b ≠ none := e1.of0.dom (a := a) ha1 dom
  have pr1 := pair_map pr fun x k y => sA.ext L H H1 x k e1.of0 y
  have nba : b ≠ a := fun z => nb (z ▸ aL)
  have sub1 : ∀ c, c ∈ [a] → c ∈ L := fun c hc => by rw [List.mem_singleton.mp hc]; exact aL
  -- the parts, made anew
  refine ⟨_, rfl, b, _, rfl, hb1.sq, fun J G g0 gE wk D hD => ?_⟩
  have nD : D ≠ a := fun z => by obtain ⟨_, _, _, y⟩ := ha1; rw [← z, hD] at y; cases y
  have nDL : D ∉ L := fun z => dom1 D z hD
  have nL : vs.length = ks.length := Paired.length pr
  refine lc_it wk (fun i G' => Ext [a] H1 G' ∧ Src G' a ∧ ∃ acc, G' D = some (.lst acc) ∧ acc.length = i ∧ Paired (Ak (D :: L) G') acc (ks.take i)) ⟨ext_new hD, ha1.off nD, [], upd_same, rfl, .nil⟩ (fun i G' _ p => gE [a] G' (by simpa using nba) p.1) (fun i y G' G2 lt I yy => ?_) fun G' I => ?_
  · obtain ⟨e2, sr, acc, hacc, la, pa⟩ := I
    obtain ⟨rfl, hy⟩ := yy
    have hk2 : ks[i]? = some ks[i] := List.getElem?_eq_getElem (by omega)
    have ay := sA.ext (D :: L) H1 G2 y ks[i] (e2.wide fun c hc => List.mem_cons_of_mem _ (sub1 c hc)) (sA.new L H1 y ks[i] D hD (pair_at pr1 hy hk2))
    refine ⟨rfl, _, rfl, _, rfl, a, D :: L, y, ks[i], rfl, List.mem_cons_of_mem _ aL, fun c hc => ?_, sr, ay, fun H' z e' sr' az => ?_⟩
    · rcases List.mem_cons.mp hc with rfl | hc
      · rw [hacc]; exact fun z => by cases z
      · exact e2.dom sr dom1 c hc
    · have hacc' := e'.at1 nD hacc
      have eD : Ext (D :: L) H' (upd H' D (.lst (acc ++ [z]))) := Ext.rfl.putL (by simp)
      refine ⟨acc, hacc', lenZ (by omega), (e2.trans e').put hD, sr'.off nD, acc ++ [z], upd_same, by simp [la], ?_⟩
      rw [take_next hk2]
      exact pair_snoc (pair_map pa fun x k h => sA.ext _ H' _ x k eD (sA.ext _ G2 H' x k (e'.wide fun c hc => List.mem_cons_of_mem _ (sub1 c hc)) h)) (sA.ext _ H' _ z _ eD az)
  · obtain ⟨e2, sr, acc, hacc, la, pa⟩ := I
    rw [List.take_of_length_le (by omega)] at pa
    refine ⟨_, rfl, a, 2, rfl, sr, by decide, by decide, fun G3 d e3 sr3 d0 d1 => ⟨rfl, _, rfl, ?_⟩⟩
    have eH : Ext [a] H G3 := (e1.of0.trans e2).trans e3
    have h3 := e3.at1 nD hacc
    have pa3 : Paired (Ak L G3) acc ks := pair_map pa fun x k h => sA.sub _ L G3 x k (fun c hc => List.mem_cons_of_mem _ hc) (sA.ext _ G' G3 x k (e3.wide fun c hc => List.mem_cons_of_mem _ (sub1 c hc)) h)
    have hlen : acc.length ≤ 1000 := by omega
    refine ite2 (fun _ => ⟨_, rfl, q G3 _ eH sr3 ⟨D, acc, rfl, nDL, .inl h3, hlen, pa3⟩⟩) fun _ => ?_
    refine ⟨_, rfl, D, acc, rfl, .inl ⟨.inl (.inl h3), fun p hp => ?_⟩⟩
    have npa : p ≠ a := fun z => by rw [z] at hp; exact sr3.ne hp
    have npL : p ∉ L := fun z => e3.dom sr3 (e2.dom sr dom1) p z hp
    have e4 : Ext L G3 (upd G3 p (.tup acc)) := ext_new hp
    exact q _ _ (eH.new hp) (sr3.off npa) ⟨p, acc, rfl, npL, .inr upd_same, hlen, pair_map pa3 fun x k h => sA.ext _ G3 _ x k e4 h⟩
end
end K70

/-! K76: same. -/
namespace K70
open PySem PySem.Spec PyProof.Rows L2 LamX
section
variable {P : Program} {w : World} {K : PySem.W.Frag} {mg : Str → Option Value} {base : Heap} {CV CG CB : Addr}
inductive Atm : V → Prop
  | non : Atm .non
  | bl (b : Bool) : Atm (.bl b)
  | int (i : Int) : Atm (.int i)
  | str (z : PySem.Str) : Atm (.str z)
def Seqs (A : Hp → V → V → Prop) (H : Hp) (x y : V) : Prop := ∃ a b xs ys, x = .ref a ∧ y = .ref b ∧ ((H a = some (.lst xs) ∧ H b = some (.lst ys)) ∨ (H a = some (.tup xs) ∧ H b = some (.tup ys))) ∧ xs.length ≤ 5000 ∧ Paired (A H) xs ys
def IsD (H : Hp) (d : Addr) : Prop := (∃ kvs, H d = some (.dK kvs)) ∨ ∃ kvs, H d = some (.dT kvs)
theorem IsD.ext {H H' : Hp} {d : Addr} (e : Ext [] H H') (h : IsD H d) : IsD H' d := h.elim (fun ⟨k, h⟩ => .inl ⟨k, e.at0 h⟩) fun ⟨k, h⟩ => .inr ⟨k, e.at0 h⟩
theorem IsD.kd {H : Hp} {d : Addr} (h : IsD H d) : Kd H (.ref d) "dict" := h.elim (fun ⟨_, h⟩ => .dK h) fun ⟨_, h⟩ => .dT h
def Dct (A : Hp → V → V → Prop) (H : Hp) (x y : V) : Prop := ∃ a b, x = .ref a ∧ y = .ref b ∧ IsD H a ∧ IsD H b ∧
  ∀ H' ps qs, ExtN H H' → EntOf H' a ps → EntOf H' b qs → ps.length ≤ 5000 ∧ Paired (fun (p q : V × V) => A H' p.1 q.1 ∧ A H' p.2 q.2) ps qs
def Al : Nat → Hp → V → V → Prop
  | 0 => fun _ _ _ => False
  | 1 => fun H x y => (x = y ∧ Atm x) ∨ Seqs (Al 0) H x y
  | 2 => fun H x y => (x = y ∧ Atm x) ∨ Seqs (Al 1) H x y
  | n + 3 => fun H x y => (x = y ∧ Atm x) ∨ Seqs (Al (n + 2)) H x y ∨ Dct (Al n) H x y
theorem al_cases : ∀ {n : Nat} {H : Hp} {x y : V}, Al (n + 1) H x y → (x = y ∧ Atm x) ∨ Seqs (Al n) H x y ∨ ∃ m, n = m + 2 ∧ Dct (Al m) H x y
  | 0, _, _, _, h => h.elim .inl fun h => .inr (.inl h)
  | 1, _, _, _, h => h.elim .inl fun h => .inr (.inl h)
  | m + 2, _, _, _, h => h.elim .inl fun h => h.elim (fun h => .inr (.inl h)) fun h => .inr (.inr ⟨m, rfl, h⟩)
theorem al_atm : ∀ {n : Nat} {H : Hp} {x : V}, Atm x → Al (n + 1) H x x
  | 0, _, _, h => .inl ⟨rfl, h⟩
  | 1, _, _, h => .inl ⟨rfl, h⟩
  | m + 2, _, _, h => .inl ⟨rfl, h⟩
theorem al_seq : ∀ {n : Nat} {H : Hp} {x y : V}, Seqs (Al n) H x y → Al (n + 1) H x y
  | 0, _, _, _, h => .inr h
  | 1, _, _, _, h => .inr h
  | m + 2, _, _, _, h => .inr (.inl h)
theorem al_dct {n : Nat} {H : Hp} {x y : V} (h : Dct (Al n) H x y) : Al (n + 3) H x y := .inr (.inr h)
theorem Ext.toN {H H' : Hp} (e : Ext [] H H') : ExtN H H' := fun b o h _ => e.at0 h
theorem Seqs.ext {A : Hp → V → V → Prop} {H H' : Hp} {x y : V} (e : ExtN H H') (f : ∀ x y, A H x y → A H' x y) (h : Seqs A H x y) : Seqs A H' x y := by
  obtain ⟨a, b, xs, ys, e1, e2, h, l, p⟩ := h
  exact ⟨a, b, xs, ys, e1, e2, h.elim (fun h => .inl ⟨e _ _ h.1 (fun _ z => by cases z), e _ _ h.2 (fun _ z => by cases z)⟩) (fun h => .inr ⟨e _ _ h.1 (fun _ z => by cases z), e _ _ h.2 (fun _ z => by cases z)⟩), l, pair_map p f⟩
theorem IsD.extN {H H' : Hp} {d : Addr} (e : ExtN H H') (h : IsD H d) : IsD H' d := h.elim (fun ⟨k, h⟩ => .inl ⟨k, e _ _ h (fun _ z => by cases z)⟩) fun ⟨k, h⟩ => .inr ⟨k, e _ _ h (fun _ z => by cases z)⟩
theorem Dct.ext {A : Hp → V → V → Prop} {H H' : Hp} {x y : V} (e : ExtN H H') (h : Dct A H x y) : Dct A H' x y := by
  obtain ⟨a, b, e1, e2, d1, d2, f⟩ := h
  exact ⟨a, b, e1, e2, d1.extN e, d2.extN e, fun H2 ps qs e' => f H2 ps qs (e.trans e')⟩
theorem Al.extN {H H' : Hp} (e : ExtN H H') : ∀ {n : Nat} {x y : V}, Al n H x y → Al n H' x y := by
  intro n
  induction n with
  | zero => intro x y h; exact h
  | succ n ih =>
    intro x y h
    rcases al_cases h with ⟨rfl, h2⟩ | h2 | ⟨m, rfl, h2⟩
    · exact al_atm h2
    · exact al_seq (h2.ext e fun x y z => ih z)
    · exact al_dct (h2.ext e)
theorem Al.ext {H H' : Hp} (e : Ext [] H H') {n : Nat} {x y : V} (h : Al n H x y) : Al n H' x y := h.extN e.toN
def spSame (n : Nat) : Sp := fun vs H Q _ => ∃ x y, vs = [x, y] ∧ Al n H x y ∧ ∀ H', Ext [] H H' → Q (.bl true) H'
theorem ok_same0 (D : Df K mg "_law_same" (topS 42)) (S : FnScope ["_law_found", "_law_wanted", "_law_mine", "_law_theirs"] ["_law_found", "_law_wanted"] (defScope (topS 42))) (hb : BindsBy "_law_same" (topS 42) ["_law_found", "_law_wanted"]) : Cl P w K mg base CX0 1 "_law_same" (spSame 0) :=
  D.cl0 S hb (fun vs H Q E ⟨x, _, e, _⟩ => by rw [e]; rfl) fun f cdv A outer s H vs Q E hr ⟨x, y, _, h, _⟩ => h.elim
abbrev TrueS : Nat → List V → Hp → Prop := fun i acc _ => acc = List.replicate i (V.bl true)
theorem EntOf.ext {H H1 H2 : Hp} {a : Addr} {ps : List (V × V)} (h : EntOf H a ps) (e1 : Ext [] H H1) (e2 : Ext [] H1 H2) : EntOf H2 a ps := by
  have e := e1.trans e2
  rcases h with ⟨kvs, h, x⟩ | ⟨kvs, h, x⟩
  · exact .k kvs (e.at0 h) x
  · exact .t kvs (e.at0 h) (pair_map x fun u v ⟨⟨q, q1, q2⟩, q3⟩ => ⟨⟨q, q1, e.at0 q2⟩, q3⟩)
theorem walk_zipT {K : PySem.W.Frag} {a b : Addr} {us ws : List V} {n : Nat} (hn : n = min us.length ws.length) : Walk (RZ.ItzT K a b) n (fun H' => SqT K H' a us ∧ SqT K H' b ws) (YPair (fun j => us[j]?) (fun j => ws[j]?)) := by
  subst hn
  refine ⟨fun j _ hj z => ?_, fun _ z => ⟨us, ws, z.1, z.2, by omega⟩, fun j G v G' _ z y => ?_⟩
  · have g1 : j < us.length := by omega
    have g2 : j < ws.length := by omega
    exact ⟨us, ws, us[j], ws[j], z.1, z.2, by simp [g1], by simp [g2]⟩
  · obtain ⟨t, u, u', y1, y2, y3, y4, y5⟩ := y
    exact ⟨t, u, u', y1, y2, y3, y4 us z.1, y5 ws z.2⟩
theorem same_step {n i : Nat} {H H1 G G' : Hp} {D : Addr} {xs ys : List V} {x u v : V} {E : XK} {Kq : PySem.W.Frag} (l : xs.length ≤ 5000) (p : Paired (Al n H) xs ys) (e1 : Ext [] H H1) (hD : H1 D = none) (lt : i < xs.length) (I : LcI H1 D TrueS i G) (y : YPair (fun i => xs[i]?) (fun i => ys[i]?) i G x G') :
    gTup Kq 2 (gCons (gName 2) (gCons (gName 3) gNil)) x (wipe [some u, some v, none, none] [2, 3]) G' fun σ2 H2 => wipe σ2 [2, 3] = wipe [some u, some v, none, none] [2, 3] ∧
      tYes σ2 H2 fun b H3 => if b = true then tK (spSame n) E (tCons (tVar 2) (tCons (tVar 3) tNil)) σ2 H3 fun y H4 => LcP H1 D TrueS i y H4 else LcI H1 D TrueS (i + 1) H3 := by
  obtain ⟨t, x', y', rfl, ht, rfl, hx, hy⟩ := y
  obtain ⟨e0, acc, hacc, la, r⟩ := I
  have e2 : Ext [] H (upd G t (.tup [x', y'])) := (e1.trans e0).new ht
  refine ⟨t, [x', y'], rfl, .inl (.inl upd_same), rfl, _, _, rfl, _, _, rfl, rfl, rfl, ?_⟩
  show tK (spSame n) E (tCons (tVar 2) (tCons (tVar 3) tNil)) _ _ _
  refine ⟨_, rfl, _, rfl, x', y', rfl, (pair_at p hx hy).ext e2, fun H5 e5 => ?_⟩
  have e6 : Ext [] G H5 := (ext_new ht).trans e5
  refine lcp hD (e0.trans e6) (e6.at0 hacc) la (by omega) ?_
  show acc ++ [V.bl true] = List.replicate (i + 1) (V.bl true)
  have r : acc = List.replicate i (V.bl true) := r
  rw [r, List.replicate_succ']
theorem same_end {n : Nat} {H H1 G : Hp} {D : Addr} {acc : List V} {Kq : PySem.W.Frag} {Q : VK} (e1 : Ext [] H H1) (q : ∀ H', Ext [] H H' → Q (.bl true) H') (e : Ext [] H1 G) (hacc : G D = some (.lst acc)) (r : TrueS n acc G) : rAll Kq [V.ref D] G Q := by
  have r : acc = List.replicate n (V.bl true) := r
  refine ⟨D, List.replicate n true, rfl, .inl (.inl (by rw [hacc, r, List.map_replicate])), ?_⟩
  rw [show (List.replicate n true).all id = true by simp]
  exact q G (e1.trans e)
abbrev N__law_same : List PySem.Str := ["_law_found", "_law_wanted", "_law_mine", "_law_theirs"]
theorem sc__law_same : FnScope N__law_same ["_law_found", "_law_wanted"] (defScope (topS 42)) := ⟨rfl, rfl, rfl, by decide +kernel, rfl, by decide +kernel, by decide +kernel⟩
theorem bb__law_same : BindsBy "_law_same" (topS 42) ["_law_found", "_law_wanted"] := fun _ _ _ _ _ _ us hl => match us, hl with | [_, _], _ => rfl
theorem ok_sameS {n : Nat} (T : Tx P K mg CV CG CB) (D : Df K mg "_law_same" (topS 42)) (c__law_same : Cl P w K mg base CX0 (n + 1) "_law_same" (spSame n)) : Cl P w K mg base CX0 (n + 2) "_law_same" (spSame (n + 1)) := by
  refine D.cl0 sc__law_same bb__law_same (fun vs H Q E ⟨x, _, e, _⟩ => by rw [e]; rfl) fun f cdv A outer s H vs Q E hr h => ?_
  have nd := sc__law_same.nd
  obtain ⟨x, y, rfl, h, q⟩ := h
  refine ⟨_, (pss_cons (ps_if (pt_val (pe_callB call_isiT (by rfl) T.isinstance bi_isinstance (pa_cons (pv 1) (pa_cons (pe_tup (pa_cons (pe_bltn (v := .ty "list") (by rfl) T.list bi_list rfl) (pa_cons (pe_bltn (v := .ty "tuple") (by rfl) T.tuple bi_tuple rfl) pa_nil))) pa_nil)))) (pss_cons (ps_if ((pw_or (pt_cmpR op_ne (pe_callB call_isi (by rfl) T.isinstance bi_isinstance (pa_cons (pv 0) (pa_cons (pe_bltn (v := .ty "list") (by rfl) T.list bi_list rfl) pa_nil))) (pe_callB call_isi (by rfl) T.isinstance bi_isinstance (pa_cons (pv 1) (pa_cons (pe_bltn (v := .ty "list") (by rfl) T.list bi_list rfl) pa_nil))) (nomark _)) (pw_or1 (pt_cmpR op_ne (pe_callB call_isi (by rfl) T.isinstance bi_isinstance (pa_cons (pv 0) (pa_cons (pe_bltn (v := .ty "tuple") (by rfl) T.tuple bi_tuple rfl) pa_nil))) (pe_callB call_isi (by rfl) T.isinstance bi_isinstance (pa_cons (pv 1) (pa_cons (pe_bltn (v := .ty "tuple") (by rfl) T.tuple bi_tuple rfl) pa_nil))) (nomark _))))).pt (pss_one (ps_ret pe_bl)) pss_nil)
  (pss_one (ps_ret (pe_and (pe_cmpR op_eq (pe_callB call_len_seq (by rfl) T.len bi_len (pa_cons (pv 0) pa_nil)) (pe_callB call_len_seq (by rfl) T.len bi_len (pa_cons (pv 1) pa_nil)) (nomark _)) (pe_one (pe_callB (cr_all rfl) (by rfl) T.all bi_all (pa_cons (pe_lc (own := [("_law_mine", 2), ("_law_theirs", 3)]) (g := gTup K 2 (gCons (gName 2) (gCons (gName 3) gNil))) (tt := tYes) rfl nd (RZ.pi_zipA (by rfl) T.zip (pa_cons (pv 0) (pa_cons (pv 1) pa_nil))) (blkOk_by (N := N__law_same) (sc := defScope (topS 42)) (by decide +kernel)) (fun _ _ _ _ _ => (pg_tup rfl (pgs_cons (pg_name (i := 2) nd rfl (.inl rfl)) (pgs_cons (pg_name (i := 3) nd rfl (.inl rfl)) pgs_nil)))) (fun _ _ _ _ _ => pts_nil) (fun _ _ _ _ _ => (pe_k c__law_same hr pass0 (pa_cons (pv 2) (pa_cons (pv 3) pa_nil))))) pa_nil))))))) pss_nil)
  (pss_cons (ps_if (pt_val (pe_callB call_isi (by rfl) T.isinstance bi_isinstance (pa_cons (pv 1) (pa_cons (pe_bltn (v := .ty "dict") (by rfl) T.dict bi_dict rfl) pa_nil)))) (pss_one (ps_ret (pe_and (pe_callB call_isi (by rfl) T.isinstance bi_isinstance (pa_cons (pv 0) (pa_cons (pe_bltn (v := .ty "dict") (by rfl) T.dict bi_dict rfl) pa_nil))) (pe_one (pe_k c__law_same hr pass0 (pa_cons (pe_itemsA rfl (pv 0) (by rfl) T.list) (pa_cons (pe_itemsA rfl (pv 1) (by rfl) T.list) pa_nil))))))) pss_nil)
  (pss_cons (ps_if ((pw_or (pt_val (pe_callB call_isi (by rfl) T.isinstance bi_isinstance (pa_cons (pv 1) (pa_cons (pe_bltn (v := .ty "bool") (by rfl) T.bool bi_bool rfl) pa_nil)))) (pw_or1 (pt_val (pe_callB call_isi (by rfl) T.isinstance bi_isinstance (pa_cons (pv 0) (pa_cons (pe_bltn (v := .ty "bool") (by rfl) T.bool bi_bool rfl) pa_nil))))))).pt (pss_one (ps_ret (pe_and (pe_callB call_isi (by rfl) T.isinstance bi_isinstance (pa_cons (pv 1) (pa_cons (pe_bltn (v := .ty "bool") (by rfl) T.bool bi_bool rfl) pa_nil))) (pe_and (pe_callB call_isi (by rfl) T.isinstance bi_isinstance (pa_cons (pv 0) (pa_cons (pe_bltn (v := .ty "bool") (by rfl) T.bool bi_bool rfl) pa_nil))) (pe_one (pe_cmpR op_eq (pv 0) (pv 1) (nomark _))))))) pss_nil)
  (pss_one (ps_ret (pe_and (pe_not (pe_callB call_isiT (by rfl) T.isinstance bi_isinstance (pa_cons (pv 0) (pa_cons (pe_tup (pa_cons (pe_bltn (v := .ty "list") (by rfl) T.list bi_list rfl) (pa_cons (pe_bltn (v := .ty "tuple") (by rfl) T.tuple bi_tuple rfl) (pa_cons (pe_bltn (v := .ty "dict") (by rfl) T.dict bi_dict rfl) pa_nil)))) pa_nil)))) (pe_one (pe_cmpR op_eq (pv 0) (pv 1) (nomark _))))))))), ?_⟩
  rcases al_cases h with ⟨rfl, h2⟩ | h2 | ⟨m, rfl, h2⟩
  · rcases h2 with _ | b | i | z
    · refine isi_vlt false rfl .non (fun H1 e1 => ⟨_, rfl, ?_⟩)
      refine isi_v false rfl .non ⟨_, rfl, ?_⟩
      refine isi_v false rfl .non ⟨_, rfl, ?_⟩
      refine isi_v false rfl .non ⟨_, rfl, ?_⟩
      refine isi_vltd false rfl .non (fun H2 e2 => ⟨_, rfl, ?_⟩)
      exact ⟨_, rfl, _, rfl, _, rfl, rfl, q H2 (e1.trans e2)⟩
    · refine isi_vlt false rfl (.bl b) (fun H1 e1 => ⟨_, rfl, ?_⟩)
      refine isi_v false rfl (.bl b) ⟨_, rfl, ?_⟩
      refine isi_v true rfl (.bl b) ⟨_, rfl, ?_⟩
      refine isi_v true rfl (.bl b) ⟨_, rfl, ?_⟩
      refine isi_v true rfl (.bl b) ⟨_, rfl, ?_⟩
      refine ⟨_, rfl, _, rfl, rfl, ?_⟩
      rw [decide_eq_true (rfl : V.bl b = V.bl b)]
      exact q H1 e1
    · refine isi_vlt false rfl (.int i) (fun H1 e1 => ⟨_, rfl, ?_⟩)
      refine isi_v false rfl (.int i) ⟨_, rfl, ?_⟩
      refine isi_v false rfl (.int i) ⟨_, rfl, ?_⟩
      refine isi_v false rfl (.int i) ⟨_, rfl, ?_⟩
      refine isi_vltd false rfl (.int i) (fun H2 e2 => ⟨_, rfl, ?_⟩)
      refine ⟨_, rfl, _, rfl, _, rfl, rfl, ?_⟩
      rw [decide_eq_true (rfl : V.int i = V.int i)]
      exact q H2 (e1.trans e2)
    · refine isi_vlt false rfl (.str z) (fun H1 e1 => ⟨_, rfl, ?_⟩)
      refine isi_v false rfl (.str z) ⟨_, rfl, ?_⟩
      refine isi_v false rfl (.str z) ⟨_, rfl, ?_⟩
      refine isi_v false rfl (.str z) ⟨_, rfl, ?_⟩
      refine isi_vltd false rfl (.str z) (fun H2 e2 => ⟨_, rfl, ?_⟩)
      refine ⟨_, rfl, _, rfl, _, rfl, rfl, ?_⟩
      rw [decide_eq_true (rfl : V.str z = V.str z)]
      exact q H2 (e1.trans e2)
  · obtain ⟨a, b, xs, ys, rfl, rfl, hab, l, p⟩ := h2
    have nxy : xs.length = ys.length := p.length
    rcases hab with ⟨ha, hb⟩ | ⟨ha, hb⟩
    · refine isi_vlt true rfl (.lst hb) (fun H1 e1 => ⟨_, rfl, ?_⟩)
      have ha1 := e1.at0 ha
      have hb1 := e1.at0 hb
      refine isi_v true rfl (.lst ha1) ?_
      refine isi_v true rfl (.lst hb1) ⟨rfl, _, rfl, ?_⟩
      refine isi_v false rfl (.lst ha1) ?_
      refine isi_v false rfl (.lst hb1) ⟨rfl, _, rfl, ?_⟩
      refine ⟨_, rfl, a, xs, rfl, .inl (.inl (.inl ha1)), _, rfl, b, ys, rfl, .inl (.inl (.inl hb1)), rfl, _, rfl, ?_⟩
      refine itB (decide_eq_true (by rw [nxy])) ?_
      refine ⟨_, rfl, _, rfl, a, b, xs, ys, rfl, .inl ⟨.inl (.inl ha1), .inl (.inl hb1), fun D hD => lc_run (walk_zip (n := xs.length) (by omega)) (fun H' e => ⟨.inl (.inl (e.at0 ha1)), .inl (.inl (e.at0 hb1))⟩) hD
        (fun i acc _ => acc = List.replicate i (V.bl true)) rfl (fun i x G G' lt I y => same_step l p e1 hD lt I y) fun acc G e hacc r => same_end e1 q e hacc r⟩⟩
    · refine isi_vlt true rfl (.tup hb) (fun H1 e1 => ⟨_, rfl, ?_⟩)
      have ha1 := e1.at0 ha
      have hb1 := e1.at0 hb
      refine isi_v false rfl (.tup ha1) ?_
      refine isi_v false rfl (.tup hb1) ⟨rfl, _, rfl, ?_⟩
      refine isi_v true rfl (.tup ha1) ?_
      refine isi_v true rfl (.tup hb1) ⟨rfl, _, rfl, ?_⟩
      refine ⟨_, rfl, a, xs, rfl, .inr (.inl (.inl ha1)), _, rfl, b, ys, rfl, .inr (.inl (.inl hb1)), rfl, _, rfl, ?_⟩
      refine itB (decide_eq_true (by rw [nxy])) ?_
      refine ⟨_, rfl, _, rfl, a, b, xs, ys, rfl, .inr ⟨.inl (.inl ha1), .inl (.inl hb1), fun D hD => lc_run (walk_zipT (n := xs.length) (by omega)) (fun H' e => ⟨.inl (.inl (e.at0 ha1)), .inl (.inl (e.at0 hb1))⟩) hD
        (fun i acc _ => acc = List.replicate i (V.bl true)) rfl (fun i x G G' lt I y => same_step l p e1 hD lt I y) fun acc G e hacc r => same_end e1 q e hacc r⟩⟩
  · obtain ⟨a, b, rfl, rfl, da, db, fd⟩ := h2
    have ka := da.kd
    have kb' := db.kd
    refine isi_vlt false rfl kb' (fun H1 e1 => ⟨_, rfl, ?_⟩)
    refine isi_v true rfl (db.ext e1).kd ⟨_, rfl, ?_⟩
    refine isi_v true rfl (da.ext e1).kd ⟨_, rfl, ?_⟩
    refine ⟨_, rfl, a, rfl, da.ext e1, fun ps H2 p1 t1 n1 e2 _ _ l1 r1 => ?_⟩
    refine ⟨_, rfl, b, rfl, (db.ext e1).ext e2, fun qs H3 p2 t2 n2 e3 _ _ l2 r2 => ?_⟩
    have n1' : EntOf H3 a ps := n1.ext e2 e3
    obtain ⟨lz, pz⟩ := fd H3 ps qs ((e1.trans e2).trans e3).toN n1' (n2.ext .rfl e3)
    refine ⟨_, _, rfl, al_seq ⟨p1, p2, _, _, rfl, rfl, .inl ⟨e3.at0 l1, l2⟩, by rw [List.length_map, r1.length]; exact lz, ?_⟩, fun H4 e4 => q _ (((e1.trans e2).trans e3).trans e4)⟩
    refine pair_ix (by rw [List.length_map, List.length_map, r1.length, r2.length, pz.length]) fun i x y hx hy => ?_
    rw [List.getElem?_map] at hx hy
    obtain ⟨t, ht, rfl⟩ := Option.map_eq_some_iff.mp hx
    obtain ⟨u, hu, rfl⟩ := Option.map_eq_some_iff.mp hy
    obtain ⟨lp, _⟩ := List.getElem?_eq_some_iff.mp ht
    obtain ⟨lq, _⟩ := List.getElem?_eq_some_iff.mp hu
    have nr1 := r1.length
    have nr2 := r2.length
    have lp' : i < ps.length := by omega
    have lq' : i < qs.length := by omega
    have hp : ps[i]? = some ps[i] := List.getElem?_eq_getElem lp'
    have hq : qs[i]? = some qs[i] := List.getElem?_eq_getElem lq'
    obtain ⟨z1, z2⟩ := pair_at pz hp hq
    exact al_seq ⟨t, u, _, _, rfl, rfl, .inr ⟨e3.at0 (pair_at r1 ht hp), pair_at r2 hu hq⟩, by show 2 ≤ 5000; decide, .cons z1 (.cons z2 .nil)⟩
/-- at each level that there is -/
theorem ok_same (T : Tx P K mg CV CG CB) (D : Df K mg "_law_same" (topS 42)) : ∀ n : Nat, Cl P w K mg base CX0 (n + 1) "_law_same" (spSame n)
  | 0 => ok_same0 D sc__law_same bb__law_same
  | n + 1 => ok_sameS T D (ok_same T D n)
end
end K70

/-! K77: names, forms. -/
namespace K70
open PySem PySem.Spec PyProof.Rows L2 LamX
abbrev Ed := PySem.Str × PySem.Str
/-- the names that there are -/
def tenN : List PySem.Str := ["a", "bo", "c7", "dora", "eightsig", "f", "g2", "hal", "i", "jo"]
def hN (k : Nat) : PySem.Str := ("h" : PySem.Str) ++ PySem.Str.ofString (toString ((k : Nat) : Int))
def allN : List PySem.Str := tenN ++ (List.range 50).map hN
def isNmB (x : PySem.Str) : Bool := decide (1 ≤ x.length) && decide (x.length ≤ 8) && (match x.cps[0]? with | some c => hasC smallS c | none => false) && x.cps.toList.all fun c => hasC (smallS ++ figS) c
theorem isNm_of {x : PySem.Str} (h : isNmB x = true) : IsNm x := by
  unfold isNmB at h
  simp only [Bool.and_eq_true, decide_eq_true_eq, List.all_eq_true] at h
  obtain ⟨⟨⟨h1, h2⟩, h3⟩, h4⟩ := h
  refine ⟨h1, h2, ?_, h4⟩
  split at h3
  · next c e => exact ⟨c, e, h3⟩
  · cases h3
theorem allN_nm : ∀ z ∈ allN, IsNm z := fun z hz => isNm_of (List.all_eq_true.mp (show allN.all isNmB = true by decide +kernel) z hz)
theorem allN_nd : allN.Nodup := by decide +kernel
theorem allN_no : ("no1" : PySem.Str) ∉ allN := by decide +kernel
theorem allN_len : allN.length = 60 := by decide +kernel
theorem cut_nat (xs : List V) (m : Nat) : cutV xs none (some (m : Int)) = xs.take m := by
  unfold cutV
  have e0 : HT.sIx xs.length 0 none = 0 := rfl
  have e1 : HT.sIx xs.length xs.length (some (m : Int)) = min m xs.length := by
    unfold HT.sIx
    simp
    omega
  rw [e0, e1, List.drop_zero, Nat.sub_zero]
  rcases Nat.le_total m xs.length with h | h
  · rw [Nat.min_eq_left h]
  · rw [Nat.min_eq_right h, List.take_of_length_le (Nat.le_refl _), List.take_of_length_le h]
theorem hN_len : ∀ i : Nat, i < 50 → ("h" : PySem.Str).length + (PySem.Str.ofString (toString ((0 : Int) + (i : Nat)))).length ≤ sizeLine := fun i h => by
  have z : ∀ j ∈ List.range 50, ("h" : PySem.Str).length + (PySem.Str.ofString (toString ((0 : Int) + (j : Nat)))).length ≤ sizeLine := by decide +kernel
  exact z i (List.mem_range.mpr h)
theorem perm_map {α β : Type} {f : α → β} : ∀ {ys : List β} {xs : List α}, ys.Perm (xs.map f) → ∃ zs : List α, ys = zs.map f ∧ zs.Perm xs := by
  intro ys xs h
  generalize hz : xs.map f = ws at h
  induction h generalizing xs with
  | nil =>
    have : xs = [] := List.map_eq_nil_iff.mp hz
    exact ⟨[], rfl, by rw [this]⟩
  | @cons x l1 l2 _ ih =>
    cases xs with
    | nil => simp at hz
    | cons a xs =>
      rw [List.map_cons] at hz
      injection hz with z1 z2
      obtain ⟨zs, e, p⟩ := ih z2
      exact ⟨a :: zs, by rw [List.map_cons, e, z1], p.cons a⟩
  | @swap x y l =>
    match xs, hz with
    | a :: b :: xs, hz =>
      rw [List.map_cons, List.map_cons] at hz
      injection hz with z1 z2
      injection z2 with z2 z3
      exact ⟨b :: a :: xs, by rw [List.map_cons, List.map_cons, z1, z2, z3], List.Perm.swap a b xs⟩
  | trans _ _ ih1 ih2 =>
    obtain ⟨zs, e, p⟩ := ih2 hz
    obtain ⟨us, e', p'⟩ := ih1 e.symm
    exact ⟨us, e', p'.trans p⟩
section
variable {P : Program} {w : World} {K : PySem.W.Frag} {mg : Str → Option Value} {base : Heap} {CV CG CB : Addr}
def spNames : Sp := fun vs H Q _ => ∃ (a : Addr) (m : Nat), vs = [.ref a, .int (m : Nat)] ∧ Src H a ∧ 1 ≤ m ∧ m ≤ 60 ∧ ∀ H' p (ns : List PySem.Str), Ext [a] H H' → Src H' a → p ≠ a → H' p = some (.lst (ns.map V.str)) → ns.length = m → ns.Nodup → (∀ z ∈ ns, z ∈ allN) → Q (.ref p) H'
abbrev N__law_f_names : List PySem.Str := ["_law_source_here", "_law_many", "_law_some", "_law_k"]
theorem sc__law_f_names : FnScope N__law_f_names ["_law_source_here", "_law_many"] (defScope (topS 44)) := ⟨rfl, rfl, rfl, by decide +kernel, rfl, by decide +kernel, by decide +kernel⟩
theorem bb__law_f_names : BindsBy "_law_f_names" (topS 44) ["_law_source_here", "_law_many"] := fun _ _ _ _ _ _ us hl => match us, hl with | [_, _], _ => rfl
theorem ok_names (T : Tx P K mg CV CG CB) (D : Df K mg "_law_f_names" (topS 44)) (c__law_mixed : Cl P w K mg base CX0 2 "_law_mixed" spMixed) : Cl P w K mg base CX0 3 "_law_f_names" spNames := by
  refine D.cl0 sc__law_f_names bb__law_f_names (fun vs H Q E ⟨x, _, e, _⟩ => by rw [e]; rfl) fun f cdv A outer s H vs Q E hr h => ?_
  have nd := sc__law_f_names.nd
  obtain ⟨a, m, rfl, ha, m0, m1, q⟩ := h
  refine ⟨_, (pss_cons (ps_set (i := 2) nd rfl (.inl rfl) (pe_op op_cat (pe_lst (pa_cons pe_str (pa_cons pe_str (pa_cons pe_str (pa_cons pe_str (pa_cons pe_str (pa_cons pe_str (pa_cons pe_str (pa_cons pe_str (pa_cons pe_str (pa_cons pe_str pa_nil))))))))))) (pe_lc (own := [("_law_k", 3)]) (g := gName 3) (tt := tYes) rfl nd (pi_range1 (by rfl) T.range (pa_cons pe_int pa_nil)) (blkOk_by (N := N__law_f_names) (sc := defScope (topS 44)) (by decide +kernel)) (fun _ _ _ _ _ => (pg_name (i := 3) nd rfl (.inl rfl))) (fun _ _ _ _ _ => pts_nil) (fun _ _ _ _ _ => (pe_op op_add_str pe_str (pe_callTy call_str_int (by rfl) T.str bi_str (pa_cons (pv 3) pa_nil)))))))
  (pss_one (ps_ret (pe_slice sl_list (pe_k c__law_mixed hr pass0 (pa_cons (pv 0) (pa_cons (pe_slice sl_list (pv 2) po_none (po_some (pe_callB (call_max2 rfl) (by rfl) T.max bi_max (pa_cons (pv 1) (pa_cons pe_int pa_nil))))) pa_nil))) po_none (po_some (pv 1)))))), ?_⟩
  refine ⟨by show 10 ≤ sizeLine; decide, fun p1 h1 => ?_⟩
  have na1 : p1 ≠ a := fun z => by rw [z] at h1; exact ha.ne h1
  refine ⟨50, rfl, by decide, by decide, fun D2 h2 => lc_run walk_range (fun _ _ => trivial) h2 (fun i acc _ => acc = ((List.range 50).take i).map fun (k : Nat) => V.str (hN k)) rfl (fun i x G G' lt I y => ?_) fun acc G e hacc r => ?_⟩
  · obtain ⟨rfl, rfl⟩ := y
    refine ⟨rfl, ?_⟩
    refine ⟨_, rfl, _, rfl, ?_, _, _, rfl, rfl, hN_len i lt, ?_⟩
    · rw [Int.zero_add, Int.natAbs_natCast]
      exact Nat.lt_of_le_of_lt (Nat.log2_le_self i) (by omega)
    · obtain ⟨e0, acc, hacc, la, r⟩ := I
      have r : acc = ((List.range 50).take i).map fun (k : Nat) => V.str (hN k) := r
      refine lcp h2 e0 hacc la (by omega) ?_
      show acc ++ [_] = ((List.range 50).take (i + 1)).map fun (k : Nat) => V.str (hN k)
      have lt' : i < 50 := lt
      rw [take_next (x := i) (List.getElem?_range lt'), List.map_append, ← r]
      simp [hN]
  · have e1 : Ext [] H G := (ext_new h1).trans e
    have r : acc = ((List.range 50).take 50).map fun (k : Nat) => V.str (hN k) := r
    refine ⟨_, _, _, _, rfl, rfl, e.at0 upd_same, hacc, by rw [r]; simp only [List.length_map, List.length_take, List.length_range, List.length_cons, List.length_nil]; decide, fun p2 h2' => ?_⟩
    have eA : tenN.map V.str ++ acc = allN.map V.str := by
      rw [r]
      unfold allN
      rw [List.map_append, List.map_map]
      rfl
    have e2 : Ext [] H (upd G p2 (.lst (allN.map V.str))) := e1.new h2'
    have n2 : p2 ≠ a := fun z => by rw [z] at h2'; exact (ha.ext e1).ne h2'
    have eM : (if (10 : Int) > (m : Nat) then (10 : Int) else (m : Nat)) = ((max m 10 : Nat) : Int) := by split <;> omega
    have g2 : (upd G p2 (.lst (tenN.map V.str ++ acc))) p2 = some (.lst (allN.map V.str)) := by rw [upd_same, eA]
    have e2 : Ext [] H (upd G p2 (.lst (tenN.map V.str ++ acc))) := e1.new h2'
    refine ⟨_, rfl, _, rfl, _, rfl, _, _, rfl, _, rfl, p2, _, rfl, .inl (.inl g2), fun p3 h3 => ?_⟩
    have e3 := e2.new (o := .lst (cutV (allN.map V.str) none (some (if (10 : Int) > (m : Nat) then (10 : Int) else (m : Nat))))) h3
    have ha3 := ha.ext e3
    have n3 : p3 ≠ a := fun z => by rw [z] at h3; exact (ha.ext e2).ne h3
    refine ⟨a, p3, _, rfl, ha3, .inl upd_same, n3, Nat.le_trans (cutV_length ..) (by rw [List.length_map, allN_len]; decide), fun H5 p5 ys e5 sr5 n5 h5 pm => ?_⟩
    rw [eM, cut_nat, ← List.map_take] at pm
    have pm' : ys.Perm ((allN.take (max m 10)).map V.str) := pm
    obtain ⟨ns, rfl, pm2⟩ := perm_map pm'
    refine ⟨_, rfl, _, rfl, p5, _, rfl, .inl (.inl h5), fun p6 h6 => ?_⟩
    have n6 : p6 ≠ a := fun z => by rw [z] at h6; exact sr5.ne h6
    have nd1 : ns.Nodup := pm2.nodup_iff.mpr ((List.take_sublist _ _).nodup allN_nd)
    refine q _ p6 (ns.take m) ((e3.of0.trans e5).new h6) (sr5.off n6) n6 ?_ ?_ ((List.take_sublist _ _).nodup nd1) fun z hz => List.mem_of_mem_take (pm2.mem_iff.mp (List.mem_of_mem_take hz))
    · rw [cut_nat, List.map_take]
      exact upd_same
    · have z := pm2.length_eq
      rw [List.length_take, allN_len] at z
      rw [List.length_take]
      omega
end
end K70

/-! K78: the plain law: roads that close no ring, lots. -/
namespace K70
open PySem PySem.Spec PyProof.Rows L2 LamX
/-- joined by the roads es -/
inductive Cn (es : List Ed) : PySem.Str → PySem.Str → Prop
  | refl (x : PySem.Str) : Cn es x x
  | fwd {x y z : PySem.Str} : (x, y) ∈ es → Cn es y z → Cn es x z
  | bwd {x y z : PySem.Str} : (y, x) ∈ es → Cn es y z → Cn es x z
theorem Cn.trans {es : List Ed} {x y z : PySem.Str} (h : Cn es x y) (g : Cn es y z) : Cn es x z := by
  induction h with
  | refl => exact g
  | fwd m _ ih => exact .fwd m (ih g)
  | bwd m _ ih => exact .bwd m (ih g)
theorem Cn.symm {es : List Ed} {x y : PySem.Str} (h : Cn es x y) : Cn es y x := by
  induction h with
  | refl => exact .refl _
  | fwd m _ ih => exact ih.trans (.bwd m (.refl _))
  | bwd m _ ih => exact ih.trans (.fwd m (.refl _))
theorem Cn.mono {es fs : List Ed} {x y : PySem.Str} (h : Cn es x y) (s : ∀ e ∈ es, e ∈ fs) : Cn fs x y := by
  induction h with
  | refl => exact .refl _
  | fwd m _ ih => exact .fwd (s _ m) ih
  | bwd m _ ih => exact .bwd (s _ m) ih
/-- a map that carries roads to joined places carries joined places to such -/
theorem Cn.map {es fs : List Ed} {x y : PySem.Str} (f : PySem.Str → PySem.Str) (h : Cn es x y) (s : ∀ e ∈ es, Cn fs (f e.1) (f e.2)) : Cn fs (f x) (f y) := by
  induction h with
  | refl => exact .refl _
  | fwd m _ ih => exact (s _ m).trans ih
  | bwd m _ ih => exact (s _ m).symm.trans ih
/-- no road closes a ring -/
def Acy (es : List Ed) : Prop := ∀ l e r, es = l ++ e :: r → ¬ Cn (l ++ r) e.1 e.2
theorem acy_nil : Acy [] := fun l e r h => by
  have := congrArg List.length h
  simp at this
theorem Acy.perm {es fs : List Ed} (h : Acy es) (p : fs.Perm es) : Acy fs := fun l e r eq c => by
  have m : e ∈ es := p.mem_iff.mp (by rw [eq]; simp)
  obtain ⟨l', r', e'⟩ := List.append_of_mem m
  have q : (l ++ r).Perm (l' ++ r') := by
    rw [eq, e'] at p
    exact List.Perm.cons_inv (List.perm_middle.symm.trans (p.trans List.perm_middle))
  exact h l' e r' e' (c.mono fun x hx => q.mem_iff.mp hx)
theorem Acy.step {es l r : List Ed} {e : Ed} (h : Acy es) (eq : es = l ++ e :: r) : ¬ Cn l e.1 e.2 := fun c => h l e r eq (c.mono fun x hx => List.mem_append_left _ hx)
theorem Acy.ne {es : List Ed} {e : Ed} (h : Acy es) (m : e ∈ es) : e.1 ≠ e.2 := fun z => by
  obtain ⟨l, r, q⟩ := List.append_of_mem m
  exact h.step q (by rw [z]; exact .refl _)
/-- the same ends but once -/
theorem Acy.uniq {es : List Ed} (h : Acy es) {i j : Nat} {e g : Ed} (hi : es[i]? = some e) (hj : es[j]? = some g) (s : g = e ∨ g = (e.2, e.1)) : i = j := by
  have key : ∀ {es : List Ed} {i j : Nat} {e g : Ed}, Acy es → es[i]? = some e → es[j]? = some g → (g = e ∨ g = (e.2, e.1)) → ¬ i < j := fun {es i j e g} h hi hj s lt => by
    obtain ⟨lj, ej⟩ := List.getElem?_eq_some_iff.mp hj
    have sp : es = es.take j ++ g :: es.drop (j + 1) := by
      rw [← ej, List.getElem_cons_drop, List.take_append_drop]
    have mi : e ∈ es.take j := List.mem_of_getElem? (i := i) (by rw [List.getElem?_take_of_lt lt]; exact hi)
    refine h.step sp ?_
    rcases s with rfl | rfl
    · exact .fwd mi (.refl _)
    · exact .bwd mi (.refl _)
  have a := key h hi hj s
  have b := key h hj hi (by
    rcases s with rfl | rfl
    · exact .inl rfl
    · exact .inr rfl)
  omega
theorem Cn.alone {es : List Ed} {v x y : PySem.Str} (h : Cn es x y) (n : ∀ e ∈ es, e.1 ≠ v ∧ e.2 ≠ v) : x = v → y = v := by
  induction h with
  | refl => exact fun e => e
  | fwd m _ ih => exact fun e => absurd e (n _ m).1
  | bwd m _ ih => exact fun e => absurd e (n _ m).2
/-- one road more, to a new house v -/
theorem Acy.grow {es : List Ed} {u v : PySem.Str} {g : Ed} (h : Acy es) (n : ∀ e ∈ es, e.1 ≠ v ∧ e.2 ≠ v) (ne : u ≠ v) (hg : g = (v, u) ∨ g = (u, v)) : Acy (es ++ [g]) := by
  have h0 : Acy (g :: es) := fun l e r eq c => by
    cases l with
    | nil =>
      simp only [List.nil_append, List.cons.injEq] at eq
      obtain ⟨rfl, rfl⟩ := eq
      rw [List.nil_append] at c
      rcases hg with rfl | rfl
      · exact ne (c.alone n rfl)
      · exact ne (c.symm.alone n rfl)
    | cons a l =>
      simp only [List.cons_append, List.cons.injEq] at eq
      obtain ⟨rfl, rfl⟩ := eq
      have me : e ∈ l ++ e :: r := by simp
      have c2 := Cn.map (fs := l ++ r) (fun z => if z = v then u else z) c (fun e' m => by
        rcases List.mem_cons.mp m with rfl | m
        · rcases hg with rfl | rfl
          · simp [ne]; exact .refl _
          · simp [ne]; exact .refl _
        · have m2 : e' ∈ l ++ e :: r := by
            rcases List.mem_append.mp m with m | m
            · exact List.mem_append_left _ m
            · exact List.mem_append_right _ (List.mem_cons_of_mem _ m)
          obtain ⟨n1, n2⟩ := n e' m2
          simp only [n1, n2, if_false]
          exact .fwd m (.refl _))
      obtain ⟨n1, n2⟩ := n e me
      simp only [n1, n2, if_false] at c2
      exact h l e r rfl c2
  exact h0.perm (List.perm_append_singleton g es)
end K70

/-! K79: forms. -/
namespace K70
open PySem PySem.Spec PyProof.Rows L2 LamX
/-- at x a pair of texts -/
def TupE (H : Hp) (x : V) (e : Ed) : Prop := ∃ b, x = .ref b ∧ H b = some (.tup [.str e.1, .str e.2])
theorem TupE.ext {H H' : Hp} {a : Addr} {x : V} {e : Ed} (h : TupE H x e) (e1 : Ext [a] H H') (ha : Src H a) : TupE H' x e := by
  obtain ⟨b, rfl, h⟩ := h
  refine ⟨b, rfl, e1.at1 (fun z => ?_) h⟩
  obtain ⟨_, _, _, y⟩ := ha
  rw [z, y] at h
  cases h
theorem TupE.ext0 {H H' : Hp} {x : V} {e : Ed} (h : TupE H x e) (e1 : Ext [] H H') : TupE H' x e := by
  obtain ⟨b, rfl, h⟩ := h
  exact ⟨b, rfl, e1.at0 h⟩
structure Pf (ns : List PySem.Str) (es : List Ed) (hs : List Int) : Prop where
  nd : ns.Nodup
  nm : ∀ z ∈ ns, z ∈ allN
  n1 : 1 ≤ ns.length
  n2 : ns.length ≤ 60
  el : es.length + 1 = ns.length
  mem : ∀ e ∈ es, e.1 ∈ ns ∧ e.2 ∈ ns
  acy : Acy es
  hl : hs.length = ns.length
  h1 : ∀ h ∈ hs, 1 ≤ h
/-- a form at fa -/
structure FoAt (H : Hp) (fa n r h : Addr) (rs : List V) (ns : List PySem.Str) (es : List Ed) (hs : List Int) : Prop where
  t : H fa = some (.tup [.ref n, .ref r, .ref h])
  n : H n = some (.lst (ns.map .str))
  r : H r = some (.lst rs)
  p : Paired (TupE H) rs es
  h : H h = some (.lst (hs.map .int))
def Fo (a : Addr) (H : Hp) (f : V) (ns : List PySem.Str) (es : List Ed) (hs : List Int) : Prop := ∃ fa n r h rs, f = .ref fa ∧ n ≠ a ∧ r ≠ a ∧ h ≠ a ∧ FoAt H fa n r h rs ns es hs
theorem paired_perm {α β : Type} {F : α → β → Prop} {xs xs2 : List α} (h : xs.Perm xs2) : ∀ {ys : List β}, Paired F xs ys → ∃ ys2 : List β, ys2.Perm ys ∧ Paired F xs2 ys2 := by
  induction h with
  | nil => intro ys p; exact ⟨ys, .refl _, p⟩
  | cons x _ ih =>
    intro ys p
    cases p with
    | cons r p =>
      obtain ⟨ys2, q, p2⟩ := ih p
      exact ⟨_ :: ys2, q.cons _, .cons r p2⟩
  | swap x y l =>
    intro ys p
    cases p with
    | cons r p =>
      cases p with
      | cons r2 p => exact ⟨_, List.Perm.swap _ _ _, .cons r2 (.cons r p)⟩
  | trans _ _ ih1 ih2 =>
    intro ys p
    obtain ⟨y1, q1, p1⟩ := ih1 p
    obtain ⟨y2, q2, p2⟩ := ih2 p1
    exact ⟨y2, q2.trans q1, p2⟩
section
variable {P : Program} {w : World} {K : PySem.W.Frag} {mg : Str → Option Value} {base : Heap} {CV CG CB : Addr}
def spForm : Sp := fun vs H Q _ => ∃ (a : Addr) (m wy : Nat), vs = [.ref a, .int (m : Nat), .int (wy : Nat)] ∧ Src H a ∧ 1 ≤ m ∧ m ≤ 60 ∧ wy < 4 ∧ ∀ H' f ns es hs, Ext [a] H H' → Src H' a → Fo a H' f ns es hs → Pf ns es hs → ns.length = m → Q f H'
abbrev N__law_f_form : List PySem.Str := ["_law_source_here", "_law_many", "_law_way", "_law_names", "_law_roads", "_law_k", "_law_to", "_law_pair", "_law_heads", "_law_name"]
theorem sc__law_f_form : FnScope N__law_f_form ["_law_source_here", "_law_many", "_law_way"] (defScope (topS 45)) := ⟨rfl, rfl, rfl, by decide +kernel, rfl, by decide +kernel, by decide +kernel⟩
theorem bb__law_f_form : BindsBy "_law_f_form" (topS 45) ["_law_source_here", "_law_many", "_law_way"] := fun _ _ _ _ _ _ us hl => match us, hl with | [_, _, _], _ => rfl
theorem ok_form (T : Tx P K mg CV CG CB) (D : Df K mg "_law_f_form" (topS 45)) (c__law_draw : Cl P w K mg base CX0 1 "_law_draw" spDraw) (c__law_pick : Cl P w K mg base CX0 2 "_law_pick" spPick) (c__law_mixed : Cl P w K mg base CX0 2 "_law_mixed" spMixed) (c__law_f_names : Cl P w K mg base CX0 3 "_law_f_names" spNames) : Cl P w K mg base CX0 4 "_law_f_form" spForm := by
  refine D.cl0 sc__law_f_form bb__law_f_form (fun vs H Q E ⟨x, _, _, e, _⟩ => by rw [e]; rfl) fun f cdv A outer s H vs Q E hr h => ?_
  have nd := sc__law_f_form.nd
  obtain ⟨a, m, wy, rfl, ha, m0, m1, wl, q⟩ := h
  refine ⟨_, (pss_cons (ps_par (i := 3) (j := 4) rfl nd rfl rfl (by decide) rfl rfl (pa_cons (pe_k c__law_f_names hr pass0 (pa_cons (pv 0) (pa_cons (pv 1) pa_nil))) (pa_cons (pe_lst pa_nil) pa_nil)) rfl)
  (pss_cons (ps_for PassesOwn.never rfl (pi_range2 (by rfl) T.range (pa_cons pe_int (pa_cons (pv 1) pa_nil))) (pg_name (i := 5) nd rfl (.inl rfl))
    (pss_cons (ps_set (i := 6) nd rfl (.inl rfl) (pe_ix ix_seq (pe_lst (pa_cons (pe_k c__law_draw hr pass0 (pa_cons (pv 0) (pa_cons (pv 5) pa_nil))) (pa_cons (pe_op op_sub (pv 5) pe_int) (pa_cons pe_int (pa_cons (pe_callB (call_max2 rfl) (by rfl) T.max bi_max (pa_cons pe_int (pa_cons (pe_op op_sub (pe_op op_sub (pv 5) pe_int) (pe_k c__law_draw hr pass0 (pa_cons (pv 0) (pa_cons pe_int pa_nil)))) pa_nil))) pa_nil))))) (pv 2) (fun _ _ => rfl)))
  (pss_cons (ps_set (i := 7) nd rfl (.inl rfl) (pe_tup (pa_cons (pe_ix ix_seq (pv 3) (pv 5) (fun _ _ => rfl)) (pa_cons (pe_ix ix_seq (pv 3) (pv 6) (fun _ _ => rfl)) pa_nil))))
  (pss_one (ps_expr (pe_bm PySem.F.plainAttrs_list PySem.F.slot_list_append PySem.F.type_list_append mt_append (pv 4) (pa_cons (pe_ifExp (pt_cmpR op_eq (pe_k c__law_draw hr pass0 (pa_cons (pv 0) (pa_cons pe_int pa_nil))) pe_int (nomark _)) (pv 7) (pe_back (pv 7))) pa_nil)))))))
  (pss_cons (ps_setLc (i := 8) (own := [("_law_name", 9)]) (g := gName 9) (tt := tYes) rfl nd rfl rfl (sw_true rfl rfl rfl (by decide +kernel)) (pi_seq (pv 3)) (blkOk_by (N := N__law_f_form) (sc := defScope (topS 45)) (by decide +kernel)) (fun _ _ _ _ _ => (pg_name (i := 9) nd rfl (.inl rfl))) (fun _ _ _ _ _ => pts_nil) (fun _ _ _ _ _ => (pe_op op_add pe_int (pe_k c__law_draw hr pass0 (pa_cons (pv 0) (pa_cons (pe_k c__law_pick hr pass0 (pa_cons (pv 0) (pa_cons (pe_lst (pa_cons pe_int (pa_cons pe_int (pa_cons (pe_op op_pow pe_int pe_int) pa_nil)))) pa_nil))) pa_nil))))))
  (pss_one (ps_ret (pe_tup (pa_cons (pe_k c__law_mixed hr pass0 (pa_cons (pv 0) (pa_cons (pv 3) pa_nil))) (pa_cons (pe_k c__law_mixed hr pass0 (pa_cons (pv 0) (pa_cons (pv 4) pa_nil))) (pa_cons (pv 8) pa_nil))))))))), ?_⟩
  refine ⟨_, rfl, _, rfl, a, m, rfl, ha, m0, m1, fun H1 pn ns0 e1 sr1 na1 hn0 ln0 nd0 mem0 => ?_⟩
  refine ⟨Nat.zero_le _, fun pr hpr => ⟨_, _, rfl, ?_⟩⟩
  have nar : pr ≠ a := fun z => by rw [z] at hpr; exact sr1.ne hpr
  have npr : pn ≠ pr := ne_of_none hn0 hpr
  refine ⟨_, rfl, 1, _, rfl, ⟨by decide, by decide, by omega, by omega⟩, ?_⟩
  refine for_it walk_range (fun i τ G => ∃ v5 v6 v7, τ = [some (.ref a), some (.int (m : Nat)), some (.int (wy : Nat)), some (.ref pn), some (.ref pr), v5, v6, v7, none, none] ∧ Ext [a] H1 G ∧ Src G a ∧ G pn = some (.lst (ns0.map V.str)) ∧
    ∃ rs es, G pr = some (.lst rs) ∧ Paired (TupE G) rs es ∧ es.length = i ∧ Acy es ∧ ∀ e ∈ es, e.1 ∈ ns0.take (i + 1) ∧ e.2 ∈ ns0.take (i + 1))
    ⟨none, none, none, rfl, ext_new hpr, sr1.off nar, by rw [upd_ne npr]; exact hn0, [], [], upd_same, .nil, rfl, acy_nil, fun e he => by simp at he⟩ (fun _ _ _ _ _ => trivial)
    (fun i x τ G G' lt I y => ?_) (fun τ G I => ?_)
  · obtain ⟨v5, v6, v7, rfl, e2, sr2, gn, rs, es, gr, prs, les, acy, mem⟩ := I
    obtain ⟨rfl, hx⟩ := y
    have hx : x = .int ((i + 1 : Nat) : Int) := by
      rw [hx]
      exact congrArg V.int (by push_cast; omega)
    subst hx
    have lt1 : i + 1 < m := by omega
    refine ⟨_, rfl, _, rfl, a, _, rfl, sr2, by omega, by omega, fun H2 d e3 sr3 d0 d1 => ?_⟩
    refine ⟨_, rfl, _, _, rfl, rfl, _, rfl, _, _, rfl, rfl, _, rfl, a, 3, rfl, sr3, by decide, by decide, fun H3 d2 e4 sr4 d20 d21 => ?_⟩
    refine ⟨_, _, rfl, rfl, _, _, rfl, by show 4 ≤ sizeLine; decide, fun p1 h1 => ?_⟩
    generalize hM : (if ((i + 1 : Nat) : Int) - 1 - d2 > 0 then ((i + 1 : Nat) : Int) - 1 - d2 else 0) = mx
    obtain ⟨j, hj, ej⟩ : ∃ j : Nat, j ≤ i ∧ [V.int d, V.int (((i + 1 : Nat) : Int) - 1), V.int 0, V.int mx][wy]? = some (.int (j : Nat)) := by
      have hd : d ≤ (i : Int) := by omega
      have hm : 0 ≤ mx ∧ mx ≤ (i : Int) := by
        rw [← hM]
        split <;> constructor <;> omega
      match wy, wl with
      | 0, _ => exact ⟨d.toNat, by omega, by simp; omega⟩
      | 1, _ => exact ⟨i, Nat.le_refl _, by simp⟩
      | 2, _ => exact ⟨0, Nat.zero_le _, rfl⟩
      | 3, _ => exact ⟨mx.toNat, by omega, by simp; omega⟩
    have e5 : Ext [a] G' (upd H3 p1 (.lst [V.int d, V.int (((i + 1 : Nat) : Int) - 1), V.int 0, V.int mx])) := (e3.trans e4).new h1
    have sr5 : Src (upd H3 p1 (.lst [V.int d, V.int (((i + 1 : Nat) : Int) - 1), V.int 0, V.int mx])) a := sr4.off (fun z => by rw [z] at h1; exact sr4.ne h1)
    refine ⟨_, rfl, ix_at (j := wy) (.inl upd_same) ej ?_⟩
    have gn5 := e5.at1 na1 gn
    have gr5 := e5.at1 nar gr
    have prs5 := pair_map prs fun u v z => z.ext e5 sr2
    generalize upd H3 p1 (.lst [V.int d, V.int (((i + 1 : Nat) : Int) - 1), V.int 0, V.int mx]) = H5 at e5 sr5 gn5 gr5 prs5
    have li : i + 1 < ns0.length := by omega
    have lj : j < ns0.length := by omega
    refine ⟨_, rfl, _, rfl, ix_at (j := i + 1) (v := .str ns0[i + 1]) (.inl gn5) (by rw [List.getElem?_map, List.getElem?_eq_getElem li]; rfl) ?_⟩
    refine ⟨_, rfl, _, rfl, ix_at (j := j) (v := .str ns0[j]) (.inl gn5) (by rw [List.getElem?_map, List.getElem?_eq_getElem lj]; rfl) ?_⟩
    refine ⟨by show 2 ≤ sizeLine; decide, fun p2 h2 => ?_⟩
    have e6 : Ext [a] G' (upd H5 p2 (.tup [.str ns0[i + 1], .str ns0[j]])) := e5.new h2
    have sr6 : Src (upd H5 p2 (.tup [.str ns0[i + 1], .str ns0[j]])) a := sr5.off (fun z => by rw [z] at h2; exact sr5.ne h2)
    have g6 : (upd H5 p2 (.tup [.str ns0[i + 1], .str ns0[j]])) p2 = some (.tup [.str ns0[i + 1], .str ns0[j]]) := upd_same
    have np2 : p2 ≠ a := fun z => by rw [z] at h2; exact sr5.ne h2
    generalize upd H5 p2 (.tup [.str ns0[i + 1], .str ns0[j]]) = H6 at e6 sr6 g6
    have fin : ∀ H7 b (g : Ed), Ext [a] H6 H7 → Src H7 a → H7 b = some (.tup [.str g.1, .str g.2]) → (g = (ns0[i + 1], ns0[j]) ∨ g = (ns0[j], ns0[i + 1])) →
        ∃ rs2 es2, (upd H7 pr (.lst (rs ++ [.ref b]))) pr = some (.lst rs2) ∧ Paired (TupE (upd H7 pr (.lst (rs ++ [.ref b])))) rs2 es2 ∧ es2.length = i + 1 ∧ Acy es2 ∧ ∀ e ∈ es2, e.1 ∈ ns0.take (i + 1 + 1) ∧ e.2 ∈ ns0.take (i + 1 + 1) := fun H7 b g e7 sr7 hb hg => by
      have tu : ∀ u w, TupE H7 u w → TupE (upd H7 pr (.lst (rs ++ [.ref b]))) u w := fun u w ⟨c, z1, z2⟩ => ⟨c, z1, by
        have gr7 := e7.at1 nar (e6.at1 nar gr)
        rw [upd_ne (fun z => by rw [z, gr7] at z2; cases z2)]
        exact z2⟩
      refine ⟨rs ++ [.ref b], es ++ [g], upd_same, ?_, by simp [les], ?_, ?_⟩
      · exact pair_snoc (pair_map prs fun u w z => tu u w (z.ext (e6.trans e7) sr2)) (tu _ _ ⟨b, rfl, hb⟩)
      · have nn : ∀ z ∈ ns0.take (i + 1), z ≠ ns0[i + 1] := fun z hz e => by
          obtain ⟨k, lk, ek⟩ := List.mem_iff_getElem.mp hz
          rw [List.length_take] at lk
          rw [List.getElem_take] at ek
          have lk2 : k < ns0.length := by omega
          have ek2 : ns0[k] = ns0[i + 1] := by rw [ek, e]
          have := (List.getElem_inj (h₀ := lk2) (h₁ := li) nd0).mp ek2
          omega
        refine acy.grow (v := ns0[i + 1]) (u := ns0[j]) (fun e he => ⟨nn _ (mem e he).1, nn _ (mem e he).2⟩) (nn _ ?_) hg
        exact List.mem_iff_getElem.mpr ⟨j, by rw [List.length_take]; omega, by rw [List.getElem_take]⟩
      · have up : ∀ z ∈ ns0.take (i + 1), z ∈ ns0.take (i + 1 + 1) := fun z hz => (List.take_subset_take_left ns0 (Nat.le_succ _)) hz
        have t1 : ns0[i + 1] ∈ ns0.take (i + 1 + 1) := List.mem_iff_getElem.mpr ⟨i + 1, by rw [List.length_take]; omega, by rw [List.getElem_take]⟩
        have t2 : ns0[j] ∈ ns0.take (i + 1 + 1) := List.mem_iff_getElem.mpr ⟨j, by rw [List.length_take]; omega, by rw [List.getElem_take]⟩
        intro e he
        rcases List.mem_append.mp he with he | he
        · exact ⟨up _ (mem e he).1, up _ (mem e he).2⟩
        · rw [List.mem_singleton.mp he]
          rcases hg with rfl | rfl
          · exact ⟨t1, t2⟩
          · exact ⟨t2, t1⟩
    refine ⟨_, rfl, tyl (e6.at1 nar gr), _, rfl, a, 2, rfl, sr6, by decide, by decide, fun H7 d7 e7 sr7 _ _ => ⟨rfl, _, rfl, ite2 (fun _ => ?_) fun _ => ?_⟩⟩
    · have gr7 := e7.at1 nar (e6.at1 nar gr)
      refine ⟨_, rfl, pr, rs, _, rfl, rfl, gr7, lenZ (by have := prs.length; omega), ?_⟩
      refine ⟨_, _, _, rfl, ((e2.trans e6).trans e7).put hpr, sr7.off nar, ?_, fin H7 p2 _ e7 sr7 (e7.at1 np2 g6) (.inl rfl)⟩
      rw [upd_ne npr]
      exact e7.at1 na1 (e6.at1 na1 gn)
    · refine ⟨_, rfl, p2, _, _, rfl, .inl (.inl (e7.at1 np2 g6)), fun p8 h8 => ?_⟩
      have n8 : p8 ≠ a := fun z => by rw [z] at h8; exact sr7.ne h8
      have e8 : Ext [a] H6 (upd H7 p8 (.tup [.str ns0[j], .str ns0[i + 1]])) := e7.new h8
      have gr8 := e8.at1 nar (e6.at1 nar gr)
      refine ⟨pr, rs, _, rfl, rfl, gr8, lenZ (by have := prs.length; omega), ?_⟩
      refine ⟨_, _, _, rfl, ((e2.trans e6).trans e8).put hpr, (sr7.off n8).off nar, ?_, fin _ p8 (ns0[j], ns0[i + 1]) e8 (sr7.off n8) upd_same (.inr rfl)⟩
      rw [upd_ne npr]
      exact e8.at1 na1 (e6.at1 na1 gn)
  · obtain ⟨v5, v6, v7, rfl, e2, sr2, gn, rs, es, gr, prs, les, acy, mem⟩ := I
    have npn : pn ≠ a := na1
    refine ⟨_, rfl, pn, _, rfl, .inl (.inl (.inl gn)), fun J G0 g0 gE wk D hD => ?_⟩
    have nD : D ≠ a := fun z => by rw [z] at hD; exact sr2.ne hD
    refine lc_it wk (fun i G' => Ext [a] G G' ∧ Src G' a ∧ ∃ hs : List Int, G' D = some (.lst (hs.map V.int)) ∧ hs.length = i ∧ ∀ h ∈ hs, 1 ≤ h) ⟨ext_new hD, sr2.off nD, [], upd_same, rfl, fun h hh => by simp at hh⟩ (fun i G' _ p => gE [a] G' (by simpa using npn) p.1) (fun i y G' G2 lt I yy => ?_) fun G' I => ?_
    · obtain ⟨e3, sr3, hs, hhs, lh, h1⟩ := I
      obtain ⟨rfl, hy⟩ := yy
      have lt2 : i < 60 := by
        have : (ns0.map V.str).length ≤ 60 := by rw [List.length_map]; omega
        omega
      refine ⟨rfl, _, rfl, _, rfl, _, _, rfl, rfl, ⟨by decide, by decide, by decide⟩, by show 3 ≤ sizeLine; decide, fun p1 hp1 => ?_⟩
      have n1 : p1 ≠ a := fun z => by rw [z] at hp1; exact sr3.ne hp1
      refine ⟨a, p1, _, rfl, sr3.off n1, n1, upd_same, by show 0 < 3; decide, by show 3 ≤ 5000; decide, fun H4 x e4 sr4 mx => ?_⟩
      obtain ⟨z, rfl, z0, z1⟩ : ∃ z : Int, x = .int z ∧ 0 < z ∧ z < 1073741824 := by
        simp only [List.mem_cons, List.not_mem_nil, or_false] at mx
        rcases mx with rfl | rfl | rfl
        · exact ⟨1, rfl, by decide, by decide⟩
        · exact ⟨9, rfl, by decide, by decide⟩
        · exact ⟨_, rfl, by decide, by decide⟩
      refine ⟨a, z, rfl, sr4, z0, z1, fun H5 d e5 sr5 d0 d1 => ⟨_, _, rfl, rfl, ?_⟩⟩
      have eT : Ext [a] G2 H5 := ((ext_new hp1).trans e4).trans e5
      refine ⟨hs.map V.int, eT.at1 nD hhs, lenZ (by rw [List.length_map]; omega), (e3.trans eT).put hD, sr5.off nD, hs ++ [1 + d], by rw [upd_same, List.map_append]; rfl, by simp [lh], fun h hh => ?_⟩
      rcases List.mem_append.mp hh with hh | hh
      · exact h1 h hh
      · rw [List.mem_singleton.mp hh]
        omega
    · obtain ⟨e3, sr3, hs, hhs, lh, h1⟩ := I
      rw [List.length_map] at lh
      have pm3 := pair_map prs fun u w z => z.ext e3 sr2
      refine ⟨_, rfl, _, rfl, a, pn, _, rfl, sr3, .inl (e3.at1 npn gn), npn, by rw [List.length_map]; omega, fun H4 q1 ys e4 sr4 f4 g4 p4 => ?_⟩
      obtain ⟨ns, rfl, pns⟩ := perm_map p4
      have hr4 := e4.at1 nar (e3.at1 nar gr)
      refine ⟨_, rfl, _, rfl, a, pr, rs, rfl, sr4, .inl hr4, nar, by have := prs.length; omega, fun H5 q2 rs2 e5 sr5 f5 g5 p5 => ?_⟩
      have pm5 := pair_map pm3 fun u w z => (z.ext e4 sr3).ext e5 sr4
      obtain ⟨es2, pes, pp⟩ := paired_perm p5.symm pm5
      refine ⟨_, rfl, by show 3 ≤ sizeLine; decide, fun q3 h3 => ?_⟩
      have nq1 : q1 ≠ a := fun z => by rw [z] at f4; exact sr3.ne f4
      have nq2 : q2 ≠ a := fun z => by rw [z] at f5; exact sr4.ne f5
      have eT : Ext [a] H H5 := (((e1.trans e2).trans e3).trans e4).trans e5
      have e6 : Ext [] H5 (upd H5 q3 (.tup [.ref q1, .ref q2, .ref D])) := ext_new h3
      refine q _ (.ref q3) ns es2 hs (eT.new h3) (sr5.ext e6) ⟨q3, q1, q2, D, rs2, rfl, nq1, nq2, nD, upd_same, e6.at0 (e5.at1 nq1 g4), e6.at0 g5, pair_map pp fun u w z => z.ext0 e6, e6.at0 (e5.at1 nD (e4.at1 nD hhs))⟩ ⟨pns.nodup_iff.mpr nd0, fun z hz => mem0 z (pns.mem_iff.mp hz), by rw [pns.length_eq]; omega, by rw [pns.length_eq]; omega, by rw [pns.length_eq, pes.length_eq]; omega, fun e he => ?_, acy.perm pes, by rw [lh, pns.length_eq], h1⟩ (by rw [pns.length_eq]; omega)
      have hm := mem e (pes.mem_iff.mp he)
      exact ⟨pns.mem_iff.mpr (List.mem_of_mem_take hm.1), pns.mem_iff.mpr (List.mem_of_mem_take hm.2)⟩
end
end K70

/-! K7A: dicts by names, the checks of a valley. -/
namespace K70
open PySem PySem.Spec PyProof.Rows L2 LamX
/-! ### dicts and lists by names -/
/-- the dict with g z for each z of ns -/
abbrev mk (ns : List PySem.Str) (g : PySem.Str → V) : List (Key × V) := ns.map fun z => (.inr z, g z)
theorem mk_val {ns : List PySem.Str} {g : PySem.Str → V} {z : PySem.Str} : z ∈ ns → valV (mk ns g) (.inr z) = some (g z) := by
  induction ns with
  | nil => intro h; cases h
  | cons y ns ih =>
    intro h
    by_cases e : y = z
    · rw [e]; exact valV_pos rfl
    · have n : ¬ (Sum.inr y : Key) = .inr z := fun q => e (Sum.inr.inj q)
      rw [show mk (y :: ns) g = (.inr y, g y) :: mk ns g from rfl, valV_neg n]
      exact ih ((List.mem_cons.mp h).resolve_left (Ne.symm e))
theorem mk_none {ns : List PySem.Str} {g : PySem.Str → V} {z : PySem.Str} : z ∉ ns → valV (mk ns g) (.inr z) = none := by
  induction ns with
  | nil => intro h; rfl
  | cons y ns ih =>
    intro h
    have n : ¬ (Sum.inr y : Key) = .inr z := fun q => h (by rw [Sum.inr.inj q]; simp)
    rw [show mk (y :: ns) g = (.inr y, g y) :: mk ns g from rfl, valV_neg n]
    exact ih fun q => h (List.mem_cons_of_mem _ q)
theorem mk_some {ns : List PySem.Str} {g : PySem.Str → V} {z : PySem.Str} : (valV (mk ns g) (.inr z)).isSome = decide (z ∈ ns) := by
  by_cases h : z ∈ ns
  · rw [mk_val h, decide_eq_true h]; rfl
  · rw [mk_none h, decide_eq_false h]; rfl
theorem mk_snoc {ns : List PySem.Str} {g : PySem.Str → V} {z : PySem.Str} (h : z ∉ ns) : putK (mk ns g) (.inr z) (g z) = mk (ns ++ [z]) g := by
  unfold putK
  rw [if_neg (by rw [valV_any, mk_none h]; simp)]
  simp [mk]
theorem mk_put {ns : List PySem.Str} {g : PySem.Str → V} {z : PySem.Str} {v : V} (h : z ∈ ns) : putK (mk ns g) (.inr z) v = mk ns fun y => if y = z then v else g y := by
  unfold putK
  rw [if_pos (by rw [valV_any, mk_val h]; rfl)]
  unfold mk
  rw [List.map_map]
  refine List.map_congr_left fun y hy => ?_
  show (if (Sum.inr y : Key) = .inr z then (Sum.inr y, v) else (Sum.inr y, g y)) = ((Sum.inr y : Key), if y = z then v else g y)
  by_cases e : y = z
  · subst e
    rw [if_pos rfl, if_pos rfl]
  · rw [if_neg (fun q => e (Sum.inr.inj q)), if_neg e]
theorem mk_congr {ns : List PySem.Str} {g h : PySem.Str → V} (e : ∀ z ∈ ns, g z = h z) : mk ns g = mk ns h := List.map_congr_left fun z hz => by rw [e z hz]
/-- the first i turns of a dict comprehension by names -/
abbrev Rm (ns : List PySem.Str) (g : PySem.Str → V) : Nat → List (Key × V) → Hp → Prop := fun i acc _ => acc = mk (ns.take i) g
theorem at_str {ns : List PySem.Str} {i : Nat} {x : V} (h : (ns.map V.str)[i]? = some x) : ∃ z, x = .str z ∧ ns[i]? = some z ∧ z ∈ ns := by
  rw [List.getElem?_map] at h
  obtain ⟨z, hz, e⟩ := Option.map_eq_some_iff.mp h
  exact ⟨z, e.symm, hz, List.mem_of_getElem? hz⟩
theorem nd_take {ns : List PySem.Str} (nd : ns.Nodup) {i : Nat} {z : PySem.Str} (h : ns[i]? = some z) : z ∉ ns.take i := fun m => by
  obtain ⟨k, lk, ek⟩ := List.mem_iff_getElem.mp m
  rw [List.length_take] at lk
  rw [List.getElem_take] at ek
  obtain ⟨li, ei⟩ := List.getElem?_eq_some_iff.mp h
  have lk2 : k < ns.length := by omega
  have := (List.getElem_inj (h₀ := lk2) (h₁ := li) nd).mp (ek.trans ei.symm)
  omega
theorem dm_push {ns : List PySem.Str} {g : PySem.Str → V} {H1 H H4 : Hp} {D : Addr} {i : Nat} {z : PySem.Str} {v : V} (nd : ns.Nodup) (n : H1 D = none) (I : DcI H1 D (Rm ns g) i H) (e : Ext [] H H4) (h : ns[i]? = some z) (zz : i ≤ 5000) (ev : v = g z) : DcP H1 D (Rm ns g) i (.str z) v H4 := by
  obtain ⟨e0, acc, hD, l, r⟩ := I
  refine dcp n (e0.trans e) (e.at0 hD) l zz (k := .inr z) rfl ?_
  have r : acc = mk (ns.take i) g := r
  show putK acc (.inr z) v = mk (ns.take (i + 1)) g
  rw [take_next h, r, ev]
  exact mk_snoc (nd_take nd h)
/-- the first i turns of a list comprehension by names -/
abbrev Rl (ns : List PySem.Str) (f : PySem.Str → Option V) : Nat → List V → Hp → Prop := fun i acc _ => acc = (ns.take i).filterMap f
theorem lm_push {ns : List PySem.Str} {f : PySem.Str → Option V} {H1 H H4 : Hp} {D : Addr} {i : Nat} {z : PySem.Str} {v : V} (n : H1 D = none) (I : LcI H1 D (Rl ns f) i H) (e : Ext [] H H4) (h : ns[i]? = some z) (zz : i ≤ 5000) (ev : f z = some v) : LcP H1 D (Rl ns f) i v H4 := by
  obtain ⟨e0, acc, hD, l, r⟩ := I
  refine lcp n (e0.trans e) (e.at0 hD) l zz ?_
  have r : acc = (ns.take i).filterMap f := r
  show acc ++ [v] = (ns.take (i + 1)).filterMap f
  rw [take_next h, List.filterMap_append, ← r]
  simp [ev]
theorem lm_skip {ns : List PySem.Str} {f : PySem.Str → Option V} {H1 H H4 : Hp} {D : Addr} {i : Nat} {z : PySem.Str} (I : LcI H1 D (Rl ns f) i H) (e : Ext [] H H4) (h : ns[i]? = some z) (ev : f z = none) : LcI H1 D (Rl ns f) (i + 1) H4 := by
  obtain ⟨e0, acc, hD, l, r⟩ := I
  refine ⟨e0.trans e, acc, e.at0 hD, Nat.le_succ_of_le l, ?_⟩
  have r : acc = (ns.take i).filterMap f := r
  show acc = (ns.take (i + 1)).filterMap f
  rw [take_next h, List.filterMap_append, ← r]
  simp [ev]
/-- xs[:k] of a list or a tuple -/
theorem sl_sx {X : Cx} : SlR X (fun x lo hi H Q => rSlL X.K x lo hi H Q ∨ rSlA X.K x lo hi H Q) := sl_list.or sl_tupA
theorem sl_at {Kq : PySem.W.Frag} {H : Hp} {a : Addr} {xs : List V} {k : Nat} {Q : VK} (h : Sx H a xs) (q : ∀ p H', Ext [] H H' → Sx H' p (xs.take k) → Q (.ref p) H') : rSlL Kq (.ref a) none (some (k : Int)) H Q ∨ rSlA Kq (.ref a) none (some (k : Int)) H Q := by
  rcases h with h | h
  · refine .inl ⟨a, xs, rfl, .inl (.inl h), fun p hp => q p _ (ext_new hp) (.inl ?_)⟩
    rw [cut_nat]
    exact upd_same
  · refine .inr ⟨a, xs, rfl, .inl (.inl h), fun z => q a H .rfl (.inr ?_), fun _ p hp => q p _ (ext_new hp) (.inr ?_)⟩
    · have z := z.2
      rw [HT.sIx_nat] at z
      rw [List.take_of_length_le (by omega)]
      exact h
    · rw [cut_nat]
      exact upd_same
theorem inV_str {z : PySem.Str} : ∀ {ns : List PySem.Str}, inV (.str z) (ns.map V.str) = decide (z ∈ ns)
  | [] => rfl
  | y :: ns => by
    have ih := inV_str (z := z) (ns := ns)
    unfold inV at ih ⊢
    rw [List.map_cons, List.any_cons, ih]
    show ((y == z) || decide (z ∈ ns)) = decide (z ∈ y :: ns)
    by_cases e : y = z
    · subst e; simp
    · simp [e, Ne.symm e]
theorem flat_strs : ∀ {ns : List PySem.Str}, (ns.map V.str).all flatV = true
  | [] => rfl
  | y :: ns => by rw [List.map_cons, List.all_cons, flat_strs]; rfl
section
variable {P : Program} {w : World} {K : PySem.W.Frag} {mg : Str → Option Value} {base : Heap} {CV CG CB : Addr}
def spSmall : Sp := fun vs H Q _ => ∃ (a : Addr) (lo hi : Nat), vs = [.ref a, .int (lo : Nat), .int (hi : Nat)] ∧ Src H a ∧ 1 ≤ lo ∧ lo ≤ hi ∧ hi ≤ 60 ∧ ∀ H' f ns es hs, Ext [a] H H' → Src H' a → Fo a H' f ns es hs → Pf ns es hs → lo ≤ ns.length → Q f H'
abbrev N__law_f_small : List PySem.Str := ["_law_source_here", "_law_least", "_law_most"]
theorem sc__law_f_small : FnScope N__law_f_small ["_law_source_here", "_law_least", "_law_most"] (defScope (topS 46)) := ⟨rfl, rfl, rfl, by decide +kernel, rfl, by decide +kernel, by decide +kernel⟩
theorem bb__law_f_small : BindsBy "_law_f_small" (topS 46) ["_law_source_here", "_law_least", "_law_most"] := fun _ _ _ _ _ _ us hl => match us, hl with | [_, _, _], _ => rfl
theorem ok_small (D : Df K mg "_law_f_small" (topS 46)) (c__law_draw : Cl P w K mg base CX0 1 "_law_draw" spDraw) (c__law_f_form : Cl P w K mg base CX0 4 "_law_f_form" spForm) : Cl P w K mg base CX0 5 "_law_f_small" spSmall := by
  refine D.cl0 sc__law_f_small bb__law_f_small (fun vs H Q E ⟨x, _, _, e, _⟩ => by rw [e]; rfl) fun f cdv A outer s H vs Q E hr h => ?_
  have nd := sc__law_f_small.nd
  obtain ⟨a, lo, hi, rfl, ha, l0, l1, l2, q⟩ := h
  refine ⟨_, (pss_one (ps_ret (pe_k c__law_f_form hr pass0 (pa_cons (pv 0) (pa_cons (pe_op op_add (pv 1) (pe_k c__law_draw hr pass0 (pa_cons (pv 0) (pa_cons (pe_op op_add (pe_op op_sub (pv 2) (pv 1)) pe_int) pa_nil)))) (pa_cons (pe_k c__law_draw hr pass0 (pa_cons (pv 0) (pa_cons pe_int pa_nil))) pa_nil)))))), ?_⟩
  refine ⟨_, rfl, _, rfl, _, rfl, _, rfl, _, rfl, _, _, rfl, rfl, _, _, rfl, rfl, a, _, rfl, ha, by omega, by omega, fun H1 d e1 sr1 d0 d1 => ⟨_, _, rfl, rfl, ?_⟩⟩
  refine ⟨_, rfl, a, 4, rfl, sr1, by decide, by decide, fun H2 d2 e2 sr2 d20 d21 => ?_⟩
  obtain ⟨k, rfl⟩ := Int.eq_ofNat_of_zero_le d0
  obtain ⟨wy, rfl⟩ := Int.eq_ofNat_of_zero_le d20
  refine ⟨a, lo + k, wy, rfl, sr2, by omega, by omega, by omega, fun H3 f ns es hs e3 sr3 fo pf ln => q H3 f ns es hs ((e1.trans e2).trans e3) sr3 fo pf (by omega)⟩
def spHouses : Sp := fun vs H Q _ => ∃ (b : Addr) (ns : List PySem.Str), vs = [.ref b] ∧ Sx H b (ns.map .str) ∧ ns.Nodup ∧ (∀ z ∈ ns, IsNm z) ∧ 1 ≤ ns.length ∧ ns.length ≤ 60 ∧ ∀ H' p, Ext [] H H' → H' p = some (.tup (ns.map .str)) → Q (.ref p) H'
abbrev N_checked_houses : List PySem.Str := ["houses", "index", "name"]
theorem sc_checked_houses : FnScope N_checked_houses ["houses"] (defScope (topS 18)) := ⟨rfl, rfl, rfl, by decide +kernel, rfl, by decide +kernel, by decide +kernel⟩
theorem bb_checked_houses : BindsBy "checked_houses" (topS 18) ["houses"] := fun _ _ _ _ _ _ us hl => match us, hl with | [_], _ => rfl
theorem ok_houses (T : Tx P K mg CV CG CB) (D : Df K mg "checked_houses" (topS 18)) (c_is_list : Cl P w K mg base CX0 1 "is_list" spIsList) (c_is_name : Cl P w K mg base CX0 1 "is_name" spName) : Cl P w K mg base CX0 2 "checked_houses" spHouses := by
  refine D.cl0 sc_checked_houses bb_checked_houses (fun vs H Q E ⟨x, _, e, _⟩ => by rw [e]; rfl) fun f cdv A outer s H vs Q E hr h => ?_
  have nd := sc_checked_houses.nd
  obtain ⟨b, ns, rfl, hb, nnd, nms, n1, n2, q⟩ := h
  refine ⟨_, (pss_cons (ps_if (pt_not (pt_val (pe_k c_is_list hr pass0 (pa_cons (pv 0) pa_nil)))) pss_never pss_nil)
  (pss_cons (ps_for PassesOwn.never rfl (pi_enumA (by rfl) T.enumerate (pa_cons (pv 0) pa_nil)) (pg_tup rfl (pgs_cons (pg_name (i := 1) nd rfl (.inl rfl)) (pgs_cons (pg_name (i := 2) nd rfl (.inl rfl)) pgs_nil)))
    (pss_one (ps_if ((pw_or (pt_not (pt_val (pe_k c_is_name hr pass0 (pa_cons (pv 2) pa_nil)))) (pw_or1 (pt_cmpR op_in_seq (pv 2) (pe_slice sl_sx (pv 0) po_none (po_some (pv 1))) rfl)))).pt pss_never pss_nil)))
  (pss_cons (ps_if (pt_cmpR op_eq (pe_callB call_len_seq (by rfl) T.len bi_len (pa_cons (pv 0) pa_nil)) pe_int (nomark _)) pss_never pss_nil)
  (pss_one (ps_ret (pe_callTy call_tuple_of (by rfl) T.tuple bi_tuple (pa_cons (pv 0) pa_nil))))))), ?_⟩
  obtain ⟨kd, hk, kb1, _⟩ := hb.kd
  refine ⟨_, rfl, _, _, rfl, hk, fun H1 e1 => ?_⟩
  rw [kb1]
  have hb1 := hb.ext e1
  refine ⟨_, rfl, _, rfl, b, _, rfl, hb1.sq, fun J G g0 gE wk => ?_⟩
  refine for_it wk (fun i τ G' => ∃ v1 v2, τ = [some (.ref b), v1, v2] ∧ Ext [] H1 G') ⟨none, none, rfl, .rfl⟩ (fun i τ G' _ ⟨_, _, _, e⟩ => gE [] G' (by simp) e) (fun i x τ G1 G2 lt I y => ?_) (fun τ G1 I => ?_)
  · obtain ⟨v1, v2, rfl, e2⟩ := I
    obtain ⟨t, _, y, rfl, ht, rfl, e, hy⟩ := y
    cases e
    obtain ⟨z, rfl, hz, mz⟩ := at_str hy
    have e3 : Ext [] H1 (upd G1 t (.tup [.int (i : Nat), .str z])) := e2.new ht
    refine ⟨t, _, rfl, .inl (.inl upd_same), rfl, _, _, rfl, _, _, rfl, rfl, ?_⟩
    refine ⟨_, rfl, z, rfl, nms z mz, fun H3 e4 => ?_⟩
    have hb3 := hb1.ext (e3.trans e4)
    refine ⟨_, rfl, _, rfl, _, rfl, _, rfl, _, rfl, sl_at hb3 fun p H4 e5 h5 => ?_⟩
    rw [← List.map_take] at h5
    refine ⟨p, _, rfl, h5.sqE, rfl, flat_strs, _, rfl, itN (inV_str.trans (decide_eq_false (nd_take nnd hz))) ?_⟩
    exact ⟨_, _, rfl, (e3.trans e4).trans e5⟩
  · obtain ⟨v1, v2, rfl, e2⟩ := I
    have hb2 := hb1.ext e2
    refine ⟨_, rfl, b, _, rfl, hb2.sqE, rfl, _, rfl, itN (decide_eq_false fun z => ?_) ?_⟩
    · have z := V.int.inj z
      rw [List.length_map] at z
      omega
    · rcases hb2 with h2 | h2
      · exact ⟨_, rfl, b, _, rfl, .inl ⟨.inl (.inl h2), fun l hl => q _ l ((e1.trans e2).new hl) upd_same⟩⟩
      · exact ⟨_, rfl, b, _, rfl, .inr ⟨.inl (.inl h2), q _ b (e1.trans e2) h2⟩⟩
def spHeads : Sp := fun vs H Q _ => ∃ (nb b : Addr) (ns : List PySem.Str) (hs : List Int), vs = [.ref nb, .ref b] ∧ H nb = some (.tup (ns.map .str)) ∧ Sx H b (hs.map .int) ∧ hs.length = ns.length ∧ ns.length ≤ 60 ∧ (∀ h ∈ hs, 1 ≤ h) ∧ ∀ H' p, Ext [] H H' → H' p = some (.tup (hs.map .int)) → Q (.ref p) H'
abbrev N_checked_heads : List PySem.Str := ["names", "heads", "index", "many"]
theorem sc_checked_heads : FnScope N_checked_heads ["names", "heads"] (defScope (topS 20)) := ⟨rfl, rfl, rfl, by decide +kernel, rfl, by decide +kernel, by decide +kernel⟩
theorem bb_checked_heads : BindsBy "checked_heads" (topS 20) ["names", "heads"] := fun _ _ _ _ _ _ us hl => match us, hl with | [_, _], _ => rfl
theorem ok_heads (T : Tx P K mg CV CG CB) (D : Df K mg "checked_heads" (topS 20)) (c_is_list : Cl P w K mg base CX0 1 "is_list" spIsList) (c_is_positive : Cl P w K mg base CX0 2 "is_positive" spPos) : Cl P w K mg base CX0 3 "checked_heads" spHeads := by
  refine D.cl0 sc_checked_heads bb_checked_heads (fun vs H Q E ⟨x, _, _, _, e, _⟩ => by rw [e]; rfl) fun f cdv A outer s H vs Q E hr h => ?_
  have nd := sc_checked_heads.nd
  obtain ⟨nb, b, ns, hs, rfl, hn, hb, ln, n2, h1, q⟩ := h
  refine ⟨_, (pss_cons (ps_if (pt_not (pt_val (pe_k c_is_list hr pass0 (pa_cons (pv 1) pa_nil)))) pss_never pss_nil)
  (pss_cons (ps_for PassesOwn.never rfl (pi_enumA (by rfl) T.enumerate (pa_cons (pv 1) pa_nil)) (pg_tup rfl (pgs_cons (pg_name (i := 2) nd rfl (.inl rfl)) (pgs_cons (pg_name (i := 3) nd rfl (.inl rfl)) pgs_nil)))
    (pss_one (ps_if ((pw_or (pt_cmpR op_ge (pv 2) (pe_callB call_len_seq (by rfl) T.len bi_len (pa_cons (pv 0) pa_nil)) (nomark _)) (pw_or1 (pt_not (pt_val (pe_k c_is_positive hr pass0 (pa_cons (pv 3) pa_nil))))))).pt pss_never pss_nil)))
  (pss_cons (ps_if (pt_cmpR op_lt (pe_callB call_len_seq (by rfl) T.len bi_len (pa_cons (pv 1) pa_nil)) (pe_callB call_len_seq (by rfl) T.len bi_len (pa_cons (pv 0) pa_nil)) (nomark _)) pss_never pss_nil)
  (pss_one (ps_ret (pe_callTy call_tuple_of (by rfl) T.tuple bi_tuple (pa_cons (pv 1) pa_nil))))))), ?_⟩
  obtain ⟨kd, hk, kb1, _⟩ := hb.kd
  refine ⟨_, rfl, _, _, rfl, hk, fun H1 e1 => ?_⟩
  rw [kb1]
  have hb1 := hb.ext e1
  have hn1 := e1.at0 hn
  refine ⟨_, rfl, _, rfl, b, _, rfl, hb1.sq, fun J G g0 gE wk => ?_⟩
  refine for_it wk (fun i τ G' => ∃ v1 v2, τ = [some (.ref nb), some (.ref b), v1, v2] ∧ Ext [] H1 G') ⟨none, none, rfl, .rfl⟩ (fun i τ G' _ ⟨_, _, _, e⟩ => gE [] G' (by simp) e) (fun i x τ G1 G2 lt I y => ?_) (fun τ G1 I => ?_)
  · obtain ⟨v1, v2, rfl, e2⟩ := I
    obtain ⟨t, _, y, rfl, ht, rfl, e, hy⟩ := y
    cases e
    have hy : (hs.map V.int)[i]? = some y := hy
    rw [List.getElem?_map] at hy
    obtain ⟨z, hz, rfl⟩ := Option.map_eq_some_iff.mp hy
    have e3 : Ext [] H1 (upd G1 t (.tup [.int (i : Nat), .int z])) := e2.new ht
    have ltn : i < ns.length := by
      rw [List.length_map] at lt
      omega
    refine ⟨t, _, rfl, .inl (.inl upd_same), rfl, _, _, rfl, _, _, rfl, rfl, ?_⟩
    refine ⟨_, rfl, _, rfl, nb, _, rfl, .inr (.inl (.inl (e3.at0 hn1))), _, _, rfl, rfl, _, rfl, itN (decide_eq_false (by rw [List.length_map]; omega)) ?_⟩
    refine ⟨_, rfl, z, rfl, ?_⟩
    rw [decide_eq_true (h1 z (List.mem_of_getElem? hz))]
    exact ⟨_, rfl, _, _, rfl, e3⟩
  · obtain ⟨v1, v2, rfl, e2⟩ := I
    have hb2 := hb1.ext e2
    refine ⟨_, rfl, b, _, rfl, hb2.sqE, _, rfl, nb, _, rfl, .inr (.inl (.inl (e2.at0 hn1))), _, _, rfl, rfl, _, rfl, itN (decide_eq_false (by rw [List.length_map, List.length_map]; omega)) ?_⟩
    rcases hb2 with h2 | h2
    · exact ⟨_, rfl, b, _, rfl, .inl ⟨.inl (.inl h2), fun l hl => q _ l ((e1.trans e2).new hl) upd_same⟩⟩
    · exact ⟨_, rfl, b, _, rfl, .inr ⟨.inl (.inl h2), q _ b (e1.trans e2) h2⟩⟩
end
end K70

/-! K7B: the roads checked. -/
namespace K70
open PySem PySem.Spec PyProof.Rows L2 LamX
section
variable {P : Program} {w : World} {K : PySem.W.Frag} {mg : Str → Option Value} {base : Heap} {CV CG CB : Addr}
/-- a list or a tuple of two texts -/
def PairE (H : Hp) (x : V) (e : Ed) : Prop := ∃ c, x = .ref c ∧ Sx H c [.str e.1, .str e.2]
theorem PairE.ext0 {H H' : Hp} {x : V} {e : Ed} (e1 : Ext [] H H') (h : PairE H x e) : PairE H' x e := by
  obtain ⟨c, rfl, h⟩ := h
  exact ⟨c, rfl, h.ext e1⟩
theorem dg_mk {H : Hp} {d : Addr} {ns : List PySem.Str} {g : PySem.Str → V} {z : PySem.Str} (h : H d = some (.dK (mk ns g))) (m : z ∈ ns) : DGet H d (.str z) (some (g z)) := by
  rw [← mk_val (g := g) m]
  exact DGet.k (k := .inr z) h
def spRoads : Sp := fun vs H Q _ => ∃ (nb b : Addr) (ns : List PySem.Str) (xs : List V) (es : List Ed), vs = [.ref nb, .ref b] ∧ H nb = some (.tup (ns.map .str)) ∧ Sx H b xs ∧ Paired (PairE H) xs es ∧ ns.Nodup ∧ ns.length ≤ 60 ∧ es.length + 1 = ns.length ∧ (∀ e ∈ es, e.1 ∈ ns ∧ e.2 ∈ ns) ∧ Acy es ∧
  ∀ H' p ts, Ext [] H H' → H' p = some (.tup ts) → Paired (TupE H') ts es → Q (.ref p) H'
abbrev N_checked_roads : List PySem.Str := ["names", "roads", "lots", "found", "name", "index", "road", "one", "other"]
theorem sc_checked_roads : FnScope N_checked_roads ["names", "roads"] (defScope (topS 19)) := ⟨rfl, rfl, rfl, by decide +kernel, rfl, by decide +kernel, by decide +kernel⟩
theorem bb_checked_roads : BindsBy "checked_roads" (topS 19) ["names", "roads"] := fun _ _ _ _ _ _ us hl => match us, hl with | [_, _], _ => rfl
theorem ok_roads (T : Tx P K mg CV CG CB) (D : Df K mg "checked_roads" (topS 19)) (c_is_list : Cl P w K mg base CX0 1 "is_list" spIsList) (c_is_among : Cl P w K mg base CX0 1 "is_among" spAmong) : Cl P w K mg base CX0 2 "checked_roads" spRoads := by
  refine D.cl0 sc_checked_roads bb_checked_roads (fun vs H Q E ⟨x, _, _, _, _, e, _⟩ => by rw [e]; rfl) fun f cdv A outer s H vs Q E hr h => ?_
  have nd := sc_checked_roads.nd
  obtain ⟨nb, b, ns, xs, es, rfl, hn, hb, prs, nnd, n2, el, mem, acy, q⟩ := h
  refine ⟨_, (pss_cons (ps_if (pt_not (pt_val (pe_k c_is_list hr pass0 (pa_cons (pv 1) pa_nil)))) pss_never pss_nil)
  (pss_cons (ps_asg (pe_tup (pa_cons (pe_dc (own := [("name", 4)]) (g := gName 4) (tt := tYes) rfl nd (pi_seq (pv 0)) (blkOk_by (N := N_checked_roads) (sc := defScope (topS 19)) (by decide +kernel)) (fun _ _ _ _ _ => (pg_name (i := 4) nd rfl (.inl rfl))) (fun _ _ _ _ _ => pts_nil) (fun _ _ _ _ _ => (pv 4)) (fun _ _ _ _ _ => (pv 4))) (pa_cons (pe_lst pa_nil) pa_nil))) (pg_tup rfl (pgs_cons (pg_name (i := 2) nd rfl (.inr rfl)) (pgs_cons (pg_name (i := 3) nd rfl (.inl rfl)) pgs_nil))))
  (pss_cons (ps_for PassesOwn.never rfl (pi_enumA (by rfl) T.enumerate (pa_cons (pv 1) pa_nil)) (pg_tup rfl (pgs_cons (pg_name (i := 5) nd rfl (.inl rfl)) (pgs_cons (pg_name (i := 6) nd rfl (.inl rfl)) pgs_nil)))
    (pss_cons (ps_if ((pw_or (pt_not (pt_val (pe_k c_is_list hr pass0 (pa_cons (pv 6) pa_nil)))) (pw_or (pt_cmpR op_ne (pe_callB call_len_seq (by rfl) T.len bi_len (pa_cons (pv 6) pa_nil)) pe_int (nomark _)) (pw_or1 (pt_not (pt_val (pe_callB (cr_all rfl) (by rfl) T.all bi_all (pa_cons (pe_lc (own := [("name", 4)]) (g := gName 4) (tt := tYes) rfl nd (pi_seq (pv 6)) (blkOk_by (N := N_checked_roads) (sc := defScope (topS 19)) (by decide +kernel)) (fun _ _ _ _ _ => (pg_name (i := 4) nd rfl (.inl rfl))) (fun _ _ _ _ _ => pts_nil) (fun _ _ _ _ _ => (pe_k c_is_among hr pass0 (pa_cons (pv 2) (pa_cons (pv 4) pa_nil))))) pa_nil)))))))).pt pss_never pss_nil)
  (pss_cons (ps_asg (pe_tup (pa_cons (pe_dget (hu_of hr) (pv 2) (pe_ix ix_seq (pv 6) pe_int (fun _ _ => rfl)) (fun _ _ => rfl)) (pa_cons (pe_dget (hu_of hr) (pv 2) (pe_ix ix_seq (pv 6) pe_int (fun _ _ => rfl)) (fun _ _ => rfl)) pa_nil))) (pg_tup rfl (pgs_cons (pg_name (i := 7) nd rfl (.inr rfl)) (pgs_cons (pg_name (i := 8) nd rfl (.inr rfl)) pgs_nil))))
  (pss_cons (ps_if (pt_cmpR op_eq (pv 7) (pv 8) (nomark _)) pss_never pss_nil)
  (pss_cons (ps_set (i := 2) nd rfl (.inr rfl) (pe_dc (own := [("name", 4)]) (g := gName 4) (tt := tYes) rfl nd (pi_seq (pv 0)) (blkOk_by (N := N_checked_roads) (sc := defScope (topS 19)) (by decide +kernel)) (fun _ _ _ _ _ => (pg_name (i := 4) nd rfl (.inl rfl))) (fun _ _ _ _ _ => pts_nil) (fun _ _ _ _ _ => (pv 4)) (fun _ _ _ _ _ => (pe_ifExp (pt_cmpR op_eq (pe_dget (hu_of hr) (pv 2) (pv 4) (fun _ _ => rfl)) (pv 8) (nomark _)) (pv 7) (pe_dget (hu_of hr) (pv 2) (pv 4) (fun _ _ => rfl))))))
  (pss_one (ps_expr (pe_bm PySem.F.plainAttrs_list PySem.F.slot_list_append PySem.F.type_list_append mt_append (pv 3) (pa_cons (pe_tup (pa_cons (pe_ix ix_seq (pv 6) pe_int (fun _ _ => rfl)) (pa_cons (pe_ix ix_seq (pv 6) pe_int (fun _ _ => rfl)) pa_nil))) pa_nil)))))))))
  (pss_cons (ps_if (pt_cmpR op_lt (pe_callB call_len_seq (by rfl) T.len bi_len (pa_cons (pv 3) pa_nil)) (pe_op op_sub (pe_callB call_len_seq (by rfl) T.len bi_len (pa_cons (pv 0) pa_nil)) pe_int) (nomark _)) pss_never pss_nil)
  (pss_one (ps_ret (pe_callTy call_tuple_of (by rfl) T.tuple bi_tuple (pa_cons (pv 3) pa_nil)))))))), ?_⟩
  obtain ⟨kd, hk, kb1, _⟩ := hb.kd
  refine ⟨_, rfl, _, _, rfl, hk, fun H1 e1 => ?_⟩
  rw [kb1]
  have hb1 := hb.ext e1
  have hn1 := e1.at0 hn
  have lns : (ns.map V.str).length = ns.length := List.length_map ..
  refine ⟨_, rfl, _, rfl, nb, _, rfl, Sx.sq (.inr hn1), fun J G g0 gE wk D1 hD1 => ?_⟩
  refine dc_run wk (fun H' e => gE [] H' (by simp) e) hD1 (Rm ns V.str) rfl (fun i x G1 G2 lt I y => ?_) fun kvs G1 e2 hk1 r => ?_
  · obtain ⟨rfl, hy⟩ := y
    obtain ⟨z, rfl, hz, mz⟩ := at_str hy
    refine ⟨rfl, _, rfl, _, rfl, dm_push nnd hD1 I .rfl hz (by omega) rfl⟩
  · have r : kvs = mk (ns.take (ns.map V.str).length) V.str := r
    rw [lns, List.take_of_length_le (Nat.le_refl _)] at r
    subst r
    refine ⟨Nat.zero_le _, fun pf hpf => ⟨by show 2 ≤ sizeLine; decide, fun p0 hp0 => ⟨p0, _, rfl, .inl (.inl upd_same), rfl, _, _, rfl, _, _, rfl, rfl, ?_⟩⟩⟩
    have e3 : Ext [] H (upd G1 pf (.lst [])) := (e1.trans e2).new hpf
    have e4 : Ext [] H (upd (upd G1 pf (.lst [])) p0 (.tup [.ref D1, .ref pf])) := e3.new hp0
    have hfH : H pf = none := (e1.trans e2).free0 hpf
    have np : pf ≠ p0 := ne_of_none upd_same hp0
    have gd : (upd (upd G1 pf (.lst [])) p0 (.tup [.ref D1, .ref pf])) D1 = some (.dK (mk ns V.str)) := (ext_new (L := []) hp0).at0 ((ext_new (L := []) hpf).at0 hk1)
    have gf : (upd (upd G1 pf (.lst [])) p0 (.tup [.ref D1, .ref pf])) pf = some (.lst []) := by rw [upd_ne np]; exact upd_same
    revert e4 gd gf
    generalize upd (upd G1 pf (.lst [])) p0 (.tup [.ref D1, .ref pf]) = G4
    intro e4 gd gf
    have hb4 := hb.ext e4
    refine ⟨_, rfl, b, _, rfl, hb4.sq, fun J G g0 gE wk => ?_⟩
    have lxs : xs.length = es.length := prs.length
    refine for_it wk (fun i τ G' => ∃ (d : Addr) (v4 v5 v6 v7 v8 : Option V) (ts : List V) (lab : PySem.Str → PySem.Str), τ = [some (.ref nb), some (.ref b), some (.ref d), some (.ref pf), v4, v5, v6, v7, v8] ∧ Ext [pf] G4 G' ∧ Ext [] H G' ∧ d ≠ pf ∧ G' d = some (.dK (mk ns fun z => .str (lab z))) ∧ G' pf = some (.lst ts) ∧
      Paired (TupE G') ts (es.take i) ∧ ∀ u v, u ∈ ns → v ∈ ns → lab u = lab v → Cn (es.take i) u v)
      ⟨D1, none, none, none, none, none, [], fun z => z, rfl, .rfl, e4, (fun z => by rw [z, gf] at gd; cases gd), gd, gf, .nil, fun u v _ _ e => by rw [show u = v from e]; exact .refl _⟩ (fun i τ G' _ ⟨_, _, _, _, _, _, _, _, _, e, _⟩ => gE [pf] G' (by
        simp only [List.mem_singleton]
        exact fun z => by
          rw [z] at hb
          exact (hb.ne_none hfH) rfl) e) (fun i x τ G1 G2 lt I y => ?_) (fun τ G1 I => ?_)
    · obtain ⟨d, v4, v5, v6, v7, v8, ts, lab, rfl, eF, eH, ndf, hd, hf, pt, lb⟩ := I
      obtain ⟨t, _, y, rfl, ht, rfl, e, hy⟩ := y
      cases e
      have hy : xs[i]? = some y := hy
      have lte : i < es.length := by omega
      have hei : es[i]? = some es[i] := List.getElem?_eq_getElem lte
      generalize hE : es[i] = ed at hei
      obtain ⟨c, rfl, hc⟩ := pair_at prs hy hei
      obtain ⟨m1, m2⟩ := mem ed (List.mem_of_getElem? hei)
      have e5 : Ext [] H (upd G1 t (.tup [.int (i : Nat), .ref c])) := eH.new ht
      have eT : Ext [] G1 (upd G1 t (.tup [.int (i : Nat), .ref c])) := ext_new ht
      refine ⟨t, _, rfl, .inl (.inl upd_same), rfl, _, _, rfl, _, _, rfl, rfl, ?_⟩
      have hd5 := eT.at0 hd
      have hf5 := eT.at0 hf
      have hc5 := hc.ext e5
      have pt5 := pair_map pt fun u v z => z.ext0 eT
      revert e5 eT hd5 hf5 hc5 pt5
      generalize upd G1 t (.tup [.int (i : Nat), .ref c]) = G5
      intro e5 eT hd5 hf5 hc5 pt5
      obtain ⟨kd2, hk2, kb2, _⟩ := hc5.kd
      refine ⟨_, rfl, _, _, rfl, hk2, fun G6 e6 => ?_⟩
      rw [kb2]
      have hd6 := e6.at0 hd5
      have hf6 := e6.at0 hf5
      have hc6 := hc5.ext e6
      have pt6 := pair_map pt5 fun u v z => z.ext0 e6
      refine ⟨_, rfl, ?_⟩
      refine ⟨_, rfl, c, _, rfl, hc6.sqE, rfl, _, rfl, ?_⟩
      refine ⟨_, rfl, c, _, rfl, hc6.sq, fun J2 Gz gz0 gzE wk2 D2 hD2 => ?_⟩
      refine lc_run wk2 (fun H' e => gzE [] H' (by simp) e) hD2 TrueS rfl (fun k x Ga Gb lt2 I2 yy => ?_) fun acc G7 e7 hacc rr => ?_
      · obtain ⟨rfl, hyy⟩ := yy
        obtain ⟨z, rfl, mz⟩ : ∃ z, x = .str z ∧ z ∈ ns := by
          have q := List.mem_of_getElem? hyy
          simp only [List.mem_cons, List.not_mem_nil, or_false] at q
          rcases q with rfl | rfl
          · exact ⟨_, rfl, m1⟩
          · exact ⟨_, rfl, m2⟩
        obtain ⟨ea, acc, hacc, la, rr⟩ := I2
        refine ⟨rfl, _, rfl, _, rfl, d, _, z, rfl, ea.at0 hd6, ?_⟩
        rw [mk_some, decide_eq_true mz]
        refine lcp hD2 ea hacc la (by have : k < 2 := lt2; omega) ?_
        have rr : acc = List.replicate k (V.bl true) := rr
        show acc ++ [V.bl true] = List.replicate (k + 1) (V.bl true)
        rw [rr, List.replicate_succ']
      have rr : acc = List.replicate 2 (V.bl true) := rr
      refine ⟨D2, [true, true], rfl, .inl (.inl (by rw [hacc, rr]; rfl)), ?_⟩
      have hd7 := e7.at0 hd6
      have hf7 := e7.at0 hf6
      have hc7 := hc6.ext e7
      have pt7 := pair_map pt6 fun u v z => z.ext0 e7
      refine ⟨_, rfl, ?_⟩
      refine ⟨_, rfl, _, rfl, ix_at (j := 0) hc7 rfl ⟨d, _, rfl, dg_mk hd7 m1, ?_⟩⟩
      refine ⟨_, rfl, _, rfl, ix_at (j := 1) hc7 rfl ⟨d, _, rfl, dg_mk hd7 m2, ?_⟩⟩
      refine ⟨by show 2 ≤ sizeLine; decide, fun p8 h8 => ⟨p8, _, rfl, .inl (.inl upd_same), rfl, _, _, rfl, _, _, rfl, rfl, ?_⟩⟩
      have spl : es = es.take i ++ ed :: es.drop (i + 1) := by
        rw [← hE, List.getElem_cons_drop, List.take_append_drop]
      have nlab : lab ed.1 ≠ lab ed.2 := fun z => acy.step spl (lb _ _ m1 m2 z)
      refine ⟨_, rfl, _, rfl, rfl, _, rfl, itN (decide_eq_false fun z => nlab (V.str.inj z)) ?_⟩
      have e8 : Ext [] G7 (upd G7 p8 (.tup [.str (lab ed.1), .str (lab ed.2)])) := ext_new h8
      have hd8 := e8.at0 hd7
      have hf8 := e8.at0 hf7
      have hc8 := hc7.ext e8
      have pt8 := pair_map pt7 fun u v z => z.ext0 e8
      have eH8 : Ext [] H (upd G7 p8 (.tup [.str (lab ed.1), .str (lab ed.2)])) := ((e5.trans e6).trans e7).trans e8
      have eF8 : Ext [pf] G4 (upd G7 p8 (.tup [.str (lab ed.1), .str (lab ed.2)])) := eF.trans ((((eT.trans e6).trans e7).trans e8).of0)
      revert eH8 eF8 hd8 hf8 hc8 pt8
      generalize upd G7 p8 (.tup [.str (lab ed.1), .str (lab ed.2)]) = G8
      intro hd8 hf8 hc8 pt8 eH8 eF8
      have hn8 := eH8.at0 hn
      refine ⟨_, rfl, nb, _, rfl, Sx.sq (.inr hn8), fun J3 G3 g30 g3E wk3 D3 hD3 => ?_⟩
      refine dc_run wk3 (fun H' e => g3E [] H' (by simp) e) hD3 (Rm ns fun z => .str (if lab z = lab ed.2 then lab ed.1 else lab z)) rfl (fun k x Ga Gb lt3 I3 yy => ?_) fun kvs G9 e9 hk9 r => ?_
      · obtain ⟨rfl, hyy⟩ := yy
        obtain ⟨z, rfl, hz, mz⟩ := at_str hyy
        refine ⟨rfl, _, rfl, _, rfl, _, rfl, d, _, rfl, dg_mk (I3.1.at0 hd8) mz, _, rfl, rfl, _, rfl, ?_⟩
        by_cases hl : lab z = lab ed.2
        · refine itB (decide_eq_true (by rw [hl])) ⟨_, rfl, dm_push nnd hD3 I3 .rfl hz (by omega) ?_⟩
          rw [if_pos hl]
        · refine itN (decide_eq_false fun q => hl (V.str.inj q)) ⟨_, rfl, _, rfl, d, _, rfl, dg_mk (I3.1.at0 hd8) mz, dm_push nnd hD3 I3 .rfl hz (by omega) ?_⟩
          rw [if_neg hl]
      · have r : kvs = mk (ns.take (ns.map V.str).length) _ := r
        rw [lns, List.take_of_length_le (Nat.le_refl _)] at r
        have hf9 := e9.at0 hf8
        have hc9 := hc8.ext e9
        have pt9 := pair_map pt8 fun u v z => z.ext0 e9
        have lts := pt.length
        rw [List.length_take] at lts
        refine ⟨_, rfl, tyl hf9, _, rfl, ix_at (j := 0) hc9 rfl ⟨_, rfl, ix_at (j := 1) hc9 rfl ⟨by show 2 ≤ sizeLine; decide, fun p10 h10 => ?_⟩⟩⟩
        have e10 : Ext [] G9 (upd G9 p10 (.tup [.str ed.1, .str ed.2])) := ext_new h10
        refine ⟨pf, ts, _, rfl, rfl, e10.at0 hf9, lenZ (by omega), ?_⟩
        have nd3f : D3 ≠ pf := fun z => by rw [z] at hD3; rw [hD3] at hf8; cases hf8
        have hpf10 := e10.at0 hf9
        have tu : ∀ u w', TupE G9 u w' → TupE (upd (upd G9 p10 (.tup [.str ed.1, .str ed.2])) pf (.lst (ts ++ [.ref p10]))) u w' := fun u w' ⟨c', z1, z2⟩ => ⟨c', z1, by
          have z3 := e10.at0 z2
          rw [upd_ne (fun z => by rw [z, hpf10] at z3; cases z3)]
          exact z3⟩
        refine ⟨D3, _, _, _, _, _, ts ++ [.ref p10], fun z => if lab z = lab ed.2 then lab ed.1 else lab z, rfl, ((eF8.trans e9.of0).trans e10.of0).putL (by simp), ((eH8.trans e9).trans e10).put hfH, nd3f, ?_, upd_same, ?_, fun u v mu mv e => ?_⟩
        · rw [upd_ne nd3f, ← r]
          exact e10.at0 hk9
        · rw [take_next hei]
          refine pair_snoc (pair_map pt9 tu) ⟨p10, rfl, ?_⟩
          rw [upd_ne (fun z => by rw [z, hf9] at h10; cases h10)]
          exact upd_same
        · have up : ∀ {x y}, Cn (es.take i) x y → Cn (es.take (i + 1)) x y := fun z => z.mono fun g hg => by rw [take_next hei]; exact List.mem_append_left _ hg
          have me : (ed.1, ed.2) ∈ es.take (i + 1) := by rw [take_next hei]; exact List.mem_append_right _ (by simp)
          have e : (if lab u = lab ed.2 then lab ed.1 else lab u) = (if lab v = lab ed.2 then lab ed.1 else lab v) := e
          by_cases h1 : lab u = lab ed.2
          · by_cases h2 : lab v = lab ed.2
            · exact up (lb u v mu mv (h1.trans h2.symm))
            · rw [if_pos h1, if_neg h2] at e
              exact ((up (lb u _ mu m2 h1)).trans (.bwd me (.refl _))).trans (up (lb _ v m1 mv e))
          · by_cases h2 : lab v = lab ed.2
            · rw [if_neg h1, if_pos h2] at e
              exact ((up (lb u _ mu m1 e)).trans (.fwd me (.refl _))).trans (up (lb _ v m2 mv h2.symm))
            · rw [if_neg h1, if_neg h2] at e
              exact up (lb u v mu mv e)
    · obtain ⟨d, v4, v5, v6, v7, v8, ts, lab, rfl, eF, eH, ndf, hd, hf, pt, lb⟩ := I
      rw [lxs, List.take_of_length_le (Nat.le_refl _)] at pt
      have lts := pt.length
      refine ⟨_, rfl, pf, _, rfl, .inl (.inl (.inl hf)), _, rfl, nb, _, rfl, .inr (.inl (.inl (eH.at0 hn))), _, _, rfl, rfl, _, _, rfl, rfl, _, rfl, itN (decide_eq_false (by rw [List.length_map]; omega)) ?_⟩
      exact ⟨_, rfl, pf, _, rfl, .inl ⟨.inl (.inl hf), fun l hl => q _ l _ (eH.new hl) upd_same (pair_map pt fun u v z => z.ext0 (ext_new hl))⟩⟩
end
end K70

/-! K7C: the valley made. -/
namespace K70
open PySem PySem.Spec PyProof.Rows L2 LamX
section
variable {P : Program} {w : World} {K : PySem.W.Frag} {mg : Str → Option Value} {base : Heap} {CV CG CB : Addr}
/-- the places of the roads -/
structure PlOk (kvs : List (List Key × V)) (es : List Ed) : Prop where
  at_ : ∀ i e, es[i]? = some e → valV kvs [.inr e.1, .inr e.2] = some (.int (i : Nat)) ∧ valV kvs [.inr e.2, .inr e.1] = some (.int (i : Nat))
  no : ∀ a b, (∀ e ∈ es, (a, b) ≠ e ∧ (b, a) ≠ e) → valV kvs [.inr a, .inr b] = none
abbrev rank (ns : List PySem.Str) (z : PySem.Str) : V := .int ((ns.idxOf z : Nat) : Int)
/-- a valley's parts -/
structure VyAt (H : Hp) (CV x dx : Addr) (fs : List (PySem.Str × V)) (nb rk rd pl : Addr) (ts : List V) (kvs : List (List Key × V)) (ns : List PySem.Str) (es : List Ed) : Prop where
  o : H x = some (.ins CV dx fs)
  f1 : fs.lookup ("names" : PySem.Str) = some (.ref nb)
  f2 : fs.lookup ("ranks" : PySem.Str) = some (.ref rk)
  f3 : fs.lookup ("own_roads" : PySem.Str) = some (.ref rd)
  f4 : fs.lookup ("places" : PySem.Str) = some (.ref pl)
  n : H nb = some (.tup (ns.map .str))
  r : H rk = some (.dK (mk ns (rank ns)))
  d : H rd = some (.tup ts)
  p : Paired (TupE H) ts es
  l : H pl = some (.dT kvs)
  lk : PlOk kvs es
def Vy (CV : Addr) (H : Hp) (v : V) (ns : List PySem.Str) (es : List Ed) : Prop := ∃ x dx fs nb rk rd pl ts kvs, v = .ref x ∧ VyAt H CV x dx fs nb rk rd pl ts kvs ns es
def spInit (CV : Addr) : Sp := fun vs H Q _ => ∃ (x dx b1 b2 b3 : Addr) (ns : List PySem.Str) (xs : List V) (es : List Ed) (hs : List Int), vs = [.ref x, .ref b1, .ref b2, .ref b3] ∧ H x = some (.ins CV dx []) ∧ Sx H b1 (ns.map .str) ∧ Sx H b2 xs ∧ Paired (PairE H) xs es ∧ Sx H b3 (hs.map .int) ∧ Pf ns es hs ∧
  ∀ H', Ext [x] H H' → Vy CV H' (.ref x) ns es → Q .non H'
abbrev BindsQ (x qn : Str) (st : Stmt) (ps : List Str) : Prop := ∀ (kV doc pm : Value) (an : Option Addr) (cdv ct : Value) (us : List Value), us.length = ps.length → bindArgs (PySem.W.fnOf x qn (defArgs st) (defBody st) (defScope st) .none kV doc pm an cdv ct) ⟨us, []⟩ = pure (ps.zip us)
abbrev N_v_init : List PySem.Str := ["self", "houses", "roads", "heads", "rank", "name", "one", "other", "place"]
theorem sc_v_init : FnScope N_v_init ["self", "houses", "roads", "heads"] (defScope (inClass (topS 17) 0)) := ⟨rfl, rfl, rfl, by decide +kernel, rfl, by decide +kernel, by decide +kernel⟩
abbrev bb_v_init : BindsQ "__init__" "Valley.__init__" (inClass (topS 17) 0) ["self", "houses", "roads", "heads"] := fun _ _ _ _ _ _ us hl => match us, hl with | [_, _, _, _], _ => rfl
theorem ins_ne {H : Hp} {a x C dx : Addr} {fs : List (PySem.Str × V)} {o : HO} (hx : H x = some (.ins C dx fs)) (h : H a = some o) (n : ∀ C dx fs, o ≠ .ins C dx fs) : a ≠ x := fun z => by
  rw [z, hx] at h
  exact n _ _ _ (Option.some.inj h).symm
theorem Sx.extI {H H' : Hp} {a x C dx : Addr} {fs : List (PySem.Str × V)} {xs : List V} (h : Sx H a xs) (hx : H x = some (.ins C dx fs)) (e : Ext [x] H H') : Sx H' a xs := by
  refine h.ext e ?_
  rw [List.mem_singleton]
  rcases h with h | h
  · exact ins_ne hx h fun _ _ _ z => by cases z
  · exact ins_ne hx h fun _ _ _ z => by cases z
theorem PairE.extI {H H' : Hp} {x C dx : Addr} {fs : List (PySem.Str × V)} {v : V} {e : Ed} (h : PairE H v e) (hx : H x = some (.ins C dx fs)) (ex : Ext [x] H H') : PairE H' v e := by
  obtain ⟨c, rfl, h⟩ := h
  exact ⟨c, rfl, h.extI hx ex⟩
theorem TupE.extI {H H' : Hp} {x C dx : Addr} {fs : List (PySem.Str × V)} {v : V} {e : Ed} (h : TupE H v e) (hx : H x = some (.ins C dx fs)) (ex : Ext [x] H H') : TupE H' v e := by
  obtain ⟨c, rfl, h⟩ := h
  exact ⟨c, rfl, ex.at1 (ins_ne hx h fun _ _ _ z => by cases z) h⟩
/-- what is no list stands, but what is in L -/
def KN (L : List Addr) (H H' : Hp) : Prop := ∀ a o, a ∉ L → H a = some o → (∀ l, o ≠ .lst l) → H' a = some o
theorem KN.refl {L : List Addr} {H : Hp} : KN L H H := fun _ _ _ h _ => h
theorem KN.trans {L : List Addr} {H H1 H2 : Hp} (a : KN L H H1) (b : KN L H1 H2) : KN L H H2 := fun c o n h k => b c o n (a c o n h k) k
theorem KN.of {L : List Addr} {H H' : Hp} (e : Ext [] H H') : KN L H H' := fun _ _ _ h _ => e.at0 h
theorem KN.lst {L : List Addr} {H : Hp} {b : Addr} {l l' : List V} (h : H b = some (.lst l)) : KN L H (upd H b (.lst l')) := fun a o _ ha k => by
  rw [upd_ne (fun z => by rw [z, h] at ha; exact k _ (Option.some.inj ha).symm)]
  exact ha
theorem KN.at0 {H H' : Hp} {a : Addr} {o : HO} (k : KN [] H H') (h : H a = some o) (n : ∀ l, o ≠ .lst l) : H' a = some o := k a o (by simp) h n
theorem KN.te {L : List Addr} {H H' : Hp} {v : V} {e : Ed} (k : KN L H H') (n : ∀ a ∈ L, ∀ xs, H a ≠ some (.tup xs)) (h : TupE H v e) : TupE H' v e := by
  obtain ⟨c, rfl, h⟩ := h
  exact ⟨c, rfl, k c _ (fun m => n c m _ h) h fun _ z => by cases z⟩
theorem TupE.extN {H H' : Hp} {v : V} {e : Ed} (h : TupE H v e) (k : KN [] H H') : TupE H' v e := by
  obtain ⟨c, rfl, h⟩ := h
  exact ⟨c, rfl, k.at0 h fun _ z => by cases z⟩
theorem TupE.ext1 {H H' : Hp} {a : Addr} {v : V} {e : Ed} (h : TupE H v e) (k : Ext [a] H H') (n : H a ≠ some (.tup [.str e.1, .str e.2])) : TupE H' v e := by
  obtain ⟨c, rfl, h⟩ := h
  exact ⟨c, rfl, k.at1 (fun q => n (by rw [← q]; exact h)) h⟩
theorem PlOk.step {kvs : List (List Key × V)} {es : List Ed} {i : Nat} {ed : Ed} (h : PlOk kvs (es.take i)) (acy : Acy es) (hi : es[i]? = some ed) : PlOk (putK (putK kvs [.inr ed.1, .inr ed.2] (.int (i : Nat))) [.inr ed.2, .inr ed.1] (.int (i : Nat))) (es.take (i + 1)) := by
  have key : ∀ {a b c d : PySem.Str}, ([.inr a, .inr b] : List Key) = [.inr c, .inr d] ↔ a = c ∧ b = d := fun {a b c d} => by simp
  have vv : ∀ a b, valV (putK (putK kvs [.inr ed.1, .inr ed.2] (.int (i : Nat))) [.inr ed.2, .inr ed.1] (.int (i : Nat))) [.inr a, .inr b] = if (a, b) = ed ∨ (b, a) = ed then some (.int (i : Nat)) else valV kvs [.inr a, .inr b] := fun a b => by
    rw [valV_put, valV_put]
    by_cases h1 : (a, b) = ed
    · subst h1
      simp
    · by_cases h2 : (b, a) = ed
      · subst h2
        simp
      · have h1' : ¬ ([.inr a, .inr b] : List Key) = [.inr ed.1, .inr ed.2] := fun z => h1 (by obtain ⟨z1, z2⟩ := key.mp z; rw [z1, z2])
        have h2' : ¬ ([.inr a, .inr b] : List Key) = [.inr ed.2, .inr ed.1] := fun z => h2 (by obtain ⟨z1, z2⟩ := key.mp z; rw [z1, z2])
        rw [if_neg h2', if_neg h1', if_neg (fun z => z.elim h1 h2)]
  refine ⟨fun j e hj => ?_, fun a b hn => ?_⟩
  · rw [vv, vv]
    rw [take_next hi] at hj
    by_cases lt : j < (es.take i).length
    · rw [List.getElem?_append_left lt] at hj
      have hj2 : es[j]? = some e := by
        rw [List.length_take] at lt
        rw [List.getElem?_take_of_lt (by omega)] at hj
        exact hj
      have ne : j ≠ i := by
        rw [List.length_take] at lt
        omega
      have n1 : ¬ e = ed := fun z => ne (acy.uniq hj2 hi (.inl z.symm))
      have n2 : ¬ (e.2, e.1) = ed := fun z => ne (acy.uniq hj2 hi (.inr z.symm))
      rw [if_neg (fun z => z.elim n1 n2), if_neg (fun z => z.elim n2 n1)]
      exact h.at_ j e hj
    · rw [List.getElem?_append_right (by omega)] at hj
      obtain ⟨li, ei⟩ := List.getElem?_eq_some_iff.mp hi
      have e0 : j - (es.take i).length = 0 := by
        cases q : j - (es.take i).length with
        | zero => rfl
        | succ k => rw [q] at hj; simp at hj
      rw [e0] at hj
      have hj : ed = e := by simpa using hj
      subst hj
      have ji : j = i := by
        rw [List.length_take] at e0 lt
        omega
      subst ji
      rw [if_pos (.inl rfl), if_pos (.inr rfl)]
      exact ⟨rfl, rfl⟩
  · rw [vv]
    rw [take_next hi] at hn
    obtain ⟨z1, z2⟩ := hn ed (by simp)
    rw [if_neg (fun z => z.elim z1 z2)]
    exact h.no a b fun e he => hn e (List.mem_append_left _ he)
/-- what stands in near -/
def NrOk (H0 : Hp) (ns : List PySem.Str) (m : Nat) (kvs : List (Key × V)) (G : Hp) : Prop := ∀ z ∈ ns, ∃ (b : Addr) (l : List PySem.Str), valV kvs (.inr z) = some (.ref b) ∧ G b = some (.lst (l.map V.str)) ∧ l.length ≤ m ∧ H0 b = none
theorem NrOk.app {H0 G : Hp} {ns : List PySem.Str} {m : Nat} {kvs : List (Key × V)} {b : Addr} {l : List PySem.Str} {z : PySem.Str} (h : NrOk H0 ns m kvs G) (hb : G b = some (.lst (l.map V.str))) (lb : l.length ≤ m) : NrOk H0 ns (m + 1) kvs (upd G b (.lst (l.map V.str ++ [V.str z]))) := fun y hy => by
  obtain ⟨b', l', h1, h2, h3, h4⟩ := h y hy
  by_cases e : b' = b
  · subst e
    exact ⟨b', l ++ [z], h1, by rw [upd_same, List.map_append]; rfl, by rw [List.length_append]; exact Nat.succ_le_succ lb, h4⟩
  · exact ⟨b', l', h1, by rw [upd_ne e]; exact h2, Nat.le_succ_of_le h3, h4⟩
theorem NrOk.ext {H0 G G' : Hp} {ns : List PySem.Str} {m : Nat} {kvs : List (Key × V)} (h : NrOk H0 ns m kvs G) (e : Ext [] G G') : NrOk H0 ns m kvs G' := fun y hy => by
  obtain ⟨b', l', h1, h2, h3, h4⟩ := h y hy
  exact ⟨b', l', h1, e.at0 h2, h3, h4⟩
theorem lk_put (f g : PySem.Str) (v : V) (fs : List (PySem.Str × V)) (n : g ≠ f) : (putF f v fs).lookup g = fs.lookup g := by rw [lookup_putF, if_neg n]
theorem lk_same (f : PySem.Str) (v : V) (fs : List (PySem.Str × V)) : (putF f v fs).lookup f = some v := by rw [lookup_putF, if_pos rfl]
theorem len_putF (f : PySem.Str) (v : V) : ∀ fs : List (PySem.Str × V), (putF f v fs).length ≤ fs.length + 1
  | [] => Nat.le_refl _
  | (g, x) :: r => by
    unfold putF
    split
    · exact Nat.le_succ _
    · exact Nat.succ_le_succ (len_putF f v r)
theorem idx_at {ns : List PySem.Str} {i : Nat} {z : PySem.Str} (nd : ns.Nodup) (h : ns[i]? = some z) : ns.idxOf z = i := by
  obtain ⟨li, ei⟩ := List.getElem?_eq_some_iff.mp h
  rw [← ei]
  exact nd.idxOf_getElem i li
theorem pe_fldK {X : Cx} {Kq : PySem.W.Frag} {e : Expr} {ta : TE} {f : PySem.Str} {pos : Pos} (hK : X.K = Kq) (he : PE X e ta) (hb : attributeBase e f X.env (eval e X.env) = eval e X.env) : PE X (.Attribute e f pos) (tFld Kq ta f) := by
  subst hK
  exact pe_fld he hb
theorem op_inK {X : Cx} {Kq : PySem.W.Frag} (hK : X.K = Kq) : OpR X (compareOp .In) (rIn Kq false) := by
  subst hK
  exact op_in_seq
theorem ix_seqK {X : Cx} {Kq : PySem.W.Frag} (hK : X.K = Kq) : IxR X (rIx Kq) := by
  subst hK
  exact ix_seq
theorem fn_ok0 {x qn : Str} {st : Stmt} {N ps : List Str} {k : Nat} {sp : Sp} {f : Addr} {fd : FuncData} (F : FunD K x qn (defArgs st) (defBody st) (defScope st) [] [] f fd) (S : FnScope N ps (defScope st)) (len : ∀ vs H Q E, sp vs H Q E → vs.length = ps.length)
    (body : ∀ (cdv : Value) (A : Around) (outer : List Env) (s : Shared) (H : Hp) (vs : List V) (Q : VK) (E : XK), Room k (A.deeper (envOfC qn (defScope st) s.heap.objs.size f cdv)) → sp vs H Q E →
      ∃ t, PSs (cxOf CX0 P w K mg base N qn (defScope st) f cdv A outer s H E).nox (defBody st) t ∧ t { nx := fun _ H' => Q .non H', rt := Q } (start N vs) H) : FnOk P w K mg base CX0 (k + 1) f fd ps sp :=
  F.ok S len fun cdv A outer s H vs Q E hr h => by
    obtain ⟨t, a, b⟩ := body cdv A outer s H vs Q E hr h
    exact ⟨t, a.nox, b⟩
theorem ok_init (T : Tx P K mg CV CG CB) {fi : Addr} {fd : FuncData} (F : FunD K "__init__" "Valley.__init__" (defArgs (inClass (topS 17) 0)) (defBody (inClass (topS 17) 0)) (defScope (inClass (topS 17) 0)) [] [] fi fd)
    (c_checked_houses : Cl P w K mg base CX0 2 "checked_houses" spHouses) (c_checked_roads : Cl P w K mg base CX0 2 "checked_roads" spRoads) (c_checked_heads : Cl P w K mg base CX0 3 "checked_heads" spHeads) : FnOk P w K mg base CX0 4 fi fd ["self", "houses", "roads", "heads"] (spInit CV) := by
  refine fn_ok0 F sc_v_init (fun vs H Q E ⟨x, _, _, _, _, _, _, _, _, e, _⟩ => by rw [e]; rfl) fun cdv A outer s H vs Q E hr h => ?_
  have nd := sc_v_init.nd
  obtain ⟨x, dx, b1, b2, b3, ns, xs, es, hs, rfl, hx, hb1, hb2, prs, hb3, pf, q⟩ := h
  refine ⟨_, (pss_cons (ps_fld (pv 0) (pe_k c_checked_houses hr pass0 (pa_cons (pv 1) pa_nil)) rfl)
  (pss_cons (ps_fld (pv 0) (pe_dc (own := [("rank", 4), ("name", 5)]) (g := gTup K 2 (gCons (gName 4) (gCons (gName 5) gNil))) (tt := tYes) rfl nd (pi_enumA (by rfl) T.enumerate (pa_cons (pe_fld (pv 0) rfl) pa_nil)) (blkOk_by (N := N_v_init) (sc := defScope (inClass (topS 17) 0)) (by decide +kernel)) (fun _ _ _ _ _ => (pg_tup rfl (pgs_cons (pg_name (i := 4) nd rfl (.inl rfl)) (pgs_cons (pg_name (i := 5) nd rfl (.inl rfl)) pgs_nil)))) (fun _ _ _ _ _ => pts_nil) (fun _ _ _ _ _ => (pv 5)) (fun _ _ _ _ _ => (pv 4))) rfl)
  (pss_cons (ps_fld (pv 0) (pe_k c_checked_roads hr pass0 (pa_cons (pe_fld (pv 0) rfl) (pa_cons (pv 2) pa_nil))) rfl)
  (pss_cons (ps_fld (pv 0) (pe_k c_checked_heads hr pass0 (pa_cons (pe_fld (pv 0) rfl) (pa_cons (pv 3) pa_nil))) rfl)
  (pss_cons (ps_fld (pv 0) (pe_dc (own := [("name", 5)]) (g := gName 5) (tt := tYes) rfl nd (pi_seq (pe_fld (pv 0) rfl)) (blkOk_by (N := N_v_init) (sc := defScope (inClass (topS 17) 0)) (by decide +kernel)) (fun _ _ _ _ _ => (pg_name (i := 5) nd rfl (.inl rfl))) (fun _ _ _ _ _ => pts_nil) (fun _ _ _ _ _ => (pv 5)) (fun _ _ _ _ _ => (pe_lst pa_nil))) rfl)
  (pss_cons (ps_for PassesOwn.never rfl (pi_seq (pe_fld (pv 0) rfl)) (pg_tup rfl (pgs_cons (pg_name (i := 6) nd rfl (.inl rfl)) (pgs_cons (pg_name (i := 7) nd rfl (.inl rfl)) pgs_nil)))
    (pss_cons (ps_expr (pe_bm PySem.F.plainAttrs_list PySem.F.slot_list_append PySem.F.type_list_append mt_append (pe_dget (hu_of hr) (pe_fld (pv 0) rfl) (pv 6) (fun _ _ => rfl)) (pa_cons (pv 7) pa_nil)))
  (pss_one (ps_expr (pe_bm PySem.F.plainAttrs_list PySem.F.slot_list_append PySem.F.type_list_append mt_append (pe_dget (hu_of hr) (pe_fld (pv 0) rfl) (pv 7) (fun _ _ => rfl)) (pa_cons (pv 6) pa_nil))))))
  (pss_cons (ps_for PassesOwn.never rfl (pi_seq (pe_fld (pv 0) rfl)) (pg_name (i := 5) nd rfl (.inr rfl))
    (pss_one (ps_dput (hu_of hr) (pe_fld (pv 0) rfl) (pv 5) (pe_lc (own := [("other", 7)]) (g := gName 7) rfl nd (pi_seq (pe_fld (pv 0) rfl)) (blkOk_by (N := N_v_init) (sc := defScope (inClass (topS 17) 0)) (by decide +kernel)) (fun _ _ _ _ _ => (pg_name (i := 7) nd rfl (.inl rfl))) (fun _ _ _ _ _ => (pts_one (pt_cmpR (op_inK (Kq := K) rfl) (pv 7) (pe_dget (hu_of hr) (pe_fldK (Kq := K) rfl (pv 0) rfl) (pv 5) (fun _ _ => rfl)) rfl))) (fun _ _ _ _ _ => (pv 7))) rfl)))
  (pss_cons (ps_fld (pv 0) pe_dnewT rfl)
  (pss_one (ps_for PassesOwn.never rfl (pi_enumA (by rfl) T.enumerate (pa_cons (pe_fld (pv 0) rfl) pa_nil)) (pg_tup rfl (pgs_cons (pg_name (i := 8) nd rfl (.inl rfl)) (pgs_cons (pg_tup rfl (pgs_cons (pg_name (i := 6) nd rfl (.inl rfl)) (pgs_cons (pg_name (i := 7) nd rfl (.inl rfl)) pgs_nil))) pgs_nil)))
    (pss_one (ps_asg (pe_tup (pa_cons (pv 8) (pa_cons (pv 8) pa_nil))) (pg_tup rfl (pgs_cons (pg_sub (pe_fld (pv 0) rfl) (pe_tup (pa_cons (pv 6) (pa_cons (pv 7) pa_nil))) (set_dict (hu_of hr))) (pgs_cons (pg_sub (pe_fld (pv 0) rfl) (pe_tup (pa_cons (pv 7) (pa_cons (pv 6) pa_nil))) (set_dict (hu_of hr))) pgs_nil))))))))))))))), ?_⟩
  have hc : Cls K CV := T.iV.cl
  -- names
  refine ⟨_, rfl, b1, ns, rfl, hb1, pf.nd, fun z hz => allN_nm z (pf.nm z hz), pf.n1, pf.n2, fun H1 nb e1 hn1 => ?_⟩
  have hx1 := e1.at0 hx
  refine ⟨_, rfl, x, CV, dx, _, rfl, hx1, hc, T.nV _ (by simp), by decide, ?_⟩
  have eX1 : Ext [x] H (upd H1 x (.ins CV dx (putF "names" (.ref nb) []))) := (e1.of0).putL (by simp)
  have hG1 : (upd H1 x (.ins CV dx (putF "names" (.ref nb) []))) x = some (.ins CV dx (putF "names" (.ref nb) [])) := upd_same
  have n1 : (upd H1 x (.ins CV dx (putF "names" (.ref nb) []))) nb = some (.tup (ns.map .str)) := by
    rw [upd_ne (ins_ne hx1 hn1 fun _ _ _ z => by cases z)]
    exact hn1
  have f1 : (putF "names" (.ref nb) ([] : List (PySem.Str × V))).lookup ("names" : PySem.Str) = some (.ref nb) := lk_same ..
  have lf1 : (putF "names" (.ref nb) ([] : List (PySem.Str × V))).length ≤ 1 := len_putF ..
  revert eX1 hG1 n1 f1 lf1
  generalize upd H1 x (.ins CV dx (putF "names" (.ref nb) [])) = G1
  generalize putF "names" (.ref nb) ([] : List (PySem.Str × V)) = fs1
  intro eX1 hG1 n1 f1 lf1
  have lns : (ns.map V.str).length = ns.length := List.length_map ..
  have pn2 := pf.n2
  -- ranks
  refine ⟨_, rfl, x, CV, dx, fs1, _, rfl, hG1, hc, T.nV _ (by simp), f1, nb, _, rfl, Sx.sq (.inr n1), fun J Gq g0 gE wk D hD => dc_run wk (fun H' e => gE [] H' (by simp) e) hD (Rm ns (rank ns)) rfl (fun i y Ga Gb lt I yy => ?_) fun kvs G2 e2 hk2 r => ?_⟩
  · obtain ⟨t, _, y, rfl, ht, rfl, e, hy⟩ := yy
    cases e
    obtain ⟨z, rfl, hz, mz⟩ := at_str hy
    refine ⟨t, _, rfl, .inl (.inl upd_same), rfl, _, _, rfl, _, _, rfl, rfl, rfl, _, rfl, _, rfl, dm_push pf.nd hD I (ext_new ht) hz (by omega) ?_⟩
    show V.int (i : Nat) = V.int (ns.idxOf z : Nat)
    rw [idx_at pf.nd hz]
  have r : kvs = mk (ns.take (ns.map V.str).length) (rank ns) := r
  rw [lns, List.take_of_length_le (Nat.le_refl _)] at r
  subst r
  have hG2' := e2.at0 hG1
  refine ⟨_, rfl, x, CV, dx, fs1, rfl, hG2', hc, T.nV _ (by simp), by omega, ?_⟩
  have eS2 : Ext [x] G2 (upd G2 x (.ins CV dx (putF "ranks" (.ref D) fs1))) := Ext.rfl.putL (by simp)
  have eX3 : Ext [x] H (upd G2 x (.ins CV dx (putF "ranks" (.ref D) fs1))) := (eX1.trans e2.of0).trans eS2
  have hG3 : (upd G2 x (.ins CV dx (putF "ranks" (.ref D) fs1))) x = some (.ins CV dx (putF "ranks" (.ref D) fs1)) := upd_same
  have n3 := eS2.at1 (ins_ne hG2' (e2.at0 n1) fun _ _ _ z => by cases z) (e2.at0 n1)
  have r3 := eS2.at1 (ins_ne hG2' hk2 fun _ _ _ z => by cases z) hk2
  have f13 : (putF "ranks" (.ref D) fs1).lookup ("names" : PySem.Str) = some (.ref nb) := (lk_put _ _ _ _ (by decide)).trans f1
  have f23 : (putF "ranks" (.ref D) fs1).lookup ("ranks" : PySem.Str) = some (.ref D) := lk_same ..
  have lf3 : (putF "ranks" (.ref D) fs1).length ≤ 2 := Nat.le_trans (len_putF ..) (by omega)
  revert eX3 hG3 n3 r3 f13 f23 lf3
  clear eS2
  generalize upd G2 x (.ins CV dx (putF "ranks" (.ref D) fs1)) = G3
  generalize putF "ranks" (.ref D) fs1 = fs3
  intro eX3 hG3 n3 r3 f13 f23 lf3
  -- own_roads
  refine ⟨_, rfl, x, CV, dx, fs3, _, rfl, hG3, hc, T.nV _ (by simp), f13, _, rfl, nb, b2, ns, xs, es, rfl, n3, hb2.extI hx eX3, pair_map prs fun u v z => z.extI hx eX3, pf.nd, pf.n2, pf.el, pf.mem, pf.acy, fun G4 rd ts e4 hrd pt => ?_⟩
  have hG4' := e4.at0 hG3
  refine ⟨_, rfl, x, CV, dx, fs3, rfl, hG4', hc, T.nV _ (by simp), by omega, ?_⟩
  have eS4 : Ext [x] G4 (upd G4 x (.ins CV dx (putF "own_roads" (.ref rd) fs3))) := Ext.rfl.putL (by simp)
  have eX5 : Ext [x] H (upd G4 x (.ins CV dx (putF "own_roads" (.ref rd) fs3))) := (eX3.trans e4.of0).trans eS4
  have hG5 : (upd G4 x (.ins CV dx (putF "own_roads" (.ref rd) fs3))) x = some (.ins CV dx (putF "own_roads" (.ref rd) fs3)) := upd_same
  have n5 := eS4.at1 (ins_ne hG4' (e4.at0 n3) fun _ _ _ z => by cases z) (e4.at0 n3)
  have r5 := eS4.at1 (ins_ne hG4' (e4.at0 r3) fun _ _ _ z => by cases z) (e4.at0 r3)
  have d5 := eS4.at1 (ins_ne hG4' hrd fun _ _ _ z => by cases z) hrd
  have p5 := pair_map pt fun u v z => z.extI hG4' eS4
  have f15 : (putF "own_roads" (.ref rd) fs3).lookup ("names" : PySem.Str) = some (.ref nb) := (lk_put _ _ _ _ (by decide)).trans f13
  have f25 : (putF "own_roads" (.ref rd) fs3).lookup ("ranks" : PySem.Str) = some (.ref D) := (lk_put _ _ _ _ (by decide)).trans f23
  have f35 : (putF "own_roads" (.ref rd) fs3).lookup ("own_roads" : PySem.Str) = some (.ref rd) := lk_same ..
  have lf5 : (putF "own_roads" (.ref rd) fs3).length ≤ 3 := Nat.le_trans (len_putF ..) (by omega)
  revert eX5 hG5 n5 r5 d5 p5 f15 f25 f35 lf5
  clear eS4
  generalize upd G4 x (.ins CV dx (putF "own_roads" (.ref rd) fs3)) = G5
  generalize putF "own_roads" (.ref rd) fs3 = fs5
  intro eX5 hG5 n5 r5 d5 p5 f15 f25 f35 lf5
  -- own_heads
  refine ⟨_, rfl, x, CV, dx, fs5, _, rfl, hG5, hc, T.nV _ (by simp), f15, _, rfl, nb, b3, ns, hs, rfl, n5, hb3.extI hx eX5, pf.hl, pf.n2, pf.h1, fun G6 hd e6 hhd => ?_⟩
  have hG6' := e6.at0 hG5
  refine ⟨_, rfl, x, CV, dx, fs5, rfl, hG6', hc, T.nV _ (by simp), by omega, ?_⟩
  have eS6 : Ext [x] G6 (upd G6 x (.ins CV dx (putF "own_heads" (.ref hd) fs5))) := Ext.rfl.putL (by simp)
  have eX7 : Ext [x] H (upd G6 x (.ins CV dx (putF "own_heads" (.ref hd) fs5))) := (eX5.trans e6.of0).trans eS6
  have hG7 : (upd G6 x (.ins CV dx (putF "own_heads" (.ref hd) fs5))) x = some (.ins CV dx (putF "own_heads" (.ref hd) fs5)) := upd_same
  have n7 := eS6.at1 (ins_ne hG6' (e6.at0 n5) fun _ _ _ z => by cases z) (e6.at0 n5)
  have r7 := eS6.at1 (ins_ne hG6' (e6.at0 r5) fun _ _ _ z => by cases z) (e6.at0 r5)
  have d7 := eS6.at1 (ins_ne hG6' (e6.at0 d5) fun _ _ _ z => by cases z) (e6.at0 d5)
  have p7 := pair_map p5 fun u v z => (z.ext0 e6).extI hG6' eS6
  have f17 : (putF "own_heads" (.ref hd) fs5).lookup ("names" : PySem.Str) = some (.ref nb) := (lk_put _ _ _ _ (by decide)).trans f15
  have f27 : (putF "own_heads" (.ref hd) fs5).lookup ("ranks" : PySem.Str) = some (.ref D) := (lk_put _ _ _ _ (by decide)).trans f25
  have f37 : (putF "own_heads" (.ref hd) fs5).lookup ("own_roads" : PySem.Str) = some (.ref rd) := (lk_put _ _ _ _ (by decide)).trans f35
  have lf7 : (putF "own_heads" (.ref hd) fs5).length ≤ 4 := Nat.le_trans (len_putF ..) (by omega)
  revert eX7 hG7 n7 r7 d7 p7 f17 f27 f37 lf7
  clear eS6
  generalize upd G6 x (.ins CV dx (putF "own_heads" (.ref hd) fs5)) = G7
  generalize putF "own_heads" (.ref hd) fs5 = fs7
  intro eX7 hG7 n7 r7 d7 p7 f17 f27 f37 lf7
  clear hG6' hG4' hG2'
  -- near
  refine ⟨_, rfl, x, CV, dx, fs7, _, rfl, hG7, hc, T.nV _ (by simp), f17, nb, _, rfl, Sx.sq (.inr n7), fun J Gq g0 gE wk nr hnr => dc_run wk (fun H' e => gE [] H' (by simp) e) hnr (fun i kvs G' => kvs.length ≤ i ∧ NrOk H (ns.take i) 0 kvs G') ⟨Nat.le_refl _, fun z hz => by simp at hz⟩ (fun i y Ga Gb lt I yy => ?_) fun kvs G8 e8 hk8 r => ?_⟩
  · obtain ⟨rfl, hy⟩ := yy
    obtain ⟨z, rfl, hz, mz⟩ := at_str hy
    refine ⟨rfl, _, rfl, Nat.zero_le _, fun p hp => ?_⟩
    obtain ⟨e0, acc, hacc, la, lacc, nok⟩ := I
    refine dcp hnr (e0.trans (ext_new hp)) ((ext_new (L := []) hp).at0 hacc) la (by omega) (k := .inr z) rfl ⟨Nat.le_trans (length_putK ..) (Nat.succ_le_succ lacc), fun y hy => ?_⟩
    have pD : p ≠ nr := fun q => by rw [q, hacc] at hp; cases hp
    by_cases e : y = z
    · subst e
      refine ⟨p, [], by rw [valV_put, if_pos rfl], by rw [upd_ne pD]; exact upd_same, Nat.le_refl _, ?_⟩
      have px : p ≠ x := fun q => by rw [q, e0.at0 hG7] at hp; cases hp
      exact eX7.free1 px (e0.free0 hp)
    · rw [take_next hz] at hy
      have hy : y ∈ ns.take i := (List.mem_append.mp hy).resolve_right fun q => e (List.mem_singleton.mp q)
      obtain ⟨b, l, v1, v2, v3, v4⟩ := nok y hy
      refine ⟨b, l, by rw [valV_put, if_neg (fun q => e (Sum.inr.inj q))]; exact v1, ?_, v3, v4⟩
      rw [upd_ne (fun q => by rw [q, hacc] at v2; cases v2), upd_ne (fun q => by rw [q, hp] at v2; cases v2)]
      exact v2
  obtain ⟨lk8, nok8⟩ := r
  rw [lns] at lk8
  rw [lns, List.take_of_length_le (Nat.le_refl _)] at nok8
  have hG8' := e8.at0 hG7
  refine ⟨_, rfl, x, CV, dx, fs7, rfl, hG8', hc, T.nV _ (by simp), by omega, ?_⟩
  have eS8 : Ext [x] G8 (upd G8 x (.ins CV dx (putF "near" (.ref nr) fs7))) := Ext.rfl.putL (by simp)
  have eX9 : Ext [x] H (upd G8 x (.ins CV dx (putF "near" (.ref nr) fs7))) := (eX7.trans e8.of0).trans eS8
  have hG9 : (upd G8 x (.ins CV dx (putF "near" (.ref nr) fs7))) x = some (.ins CV dx (putF "near" (.ref nr) fs7)) := upd_same
  have n9 := eS8.at1 (ins_ne hG8' (e8.at0 n7) fun _ _ _ z => by cases z) (e8.at0 n7)
  have r9 := eS8.at1 (ins_ne hG8' (e8.at0 r7) fun _ _ _ z => by cases z) (e8.at0 r7)
  have d9 := eS8.at1 (ins_ne hG8' (e8.at0 d7) fun _ _ _ z => by cases z) (e8.at0 d7)
  have k9 := eS8.at1 (ins_ne hG8' hk8 fun _ _ _ z => by cases z) hk8
  have p9 := pair_map p7 fun u v z => (z.ext0 e8).extI hG8' eS8
  have hnrH : H nr = none := eX7.free1 (fun q => by rw [q, hG7] at hnr; cases hnr) hnr
  have o9 : NrOk H ns 0 kvs (upd G8 x (.ins CV dx (putF "near" (.ref nr) fs7))) := fun y hy => by
    obtain ⟨b, l, v1, v2, v3, v4⟩ := nok8 y hy
    exact ⟨b, l, v1, eS8.at1 (ins_ne hG8' v2 fun _ _ _ z => by cases z) v2, v3, v4⟩
  have f19 : (putF "near" (.ref nr) fs7).lookup ("names" : PySem.Str) = some (.ref nb) := (lk_put _ _ _ _ (by decide)).trans f17
  have f29 : (putF "near" (.ref nr) fs7).lookup ("ranks" : PySem.Str) = some (.ref D) := (lk_put _ _ _ _ (by decide)).trans f27
  have f39 : (putF "near" (.ref nr) fs7).lookup ("own_roads" : PySem.Str) = some (.ref rd) := (lk_put _ _ _ _ (by decide)).trans f37
  have f59 : (putF "near" (.ref nr) fs7).lookup ("near" : PySem.Str) = some (.ref nr) := lk_same ..
  have lf9 : (putF "near" (.ref nr) fs7).length ≤ 5 := Nat.le_trans (len_putF ..) (by omega)
  revert eX9 hG9 n9 r9 d9 k9 p9 o9 f19 f29 f39 f59 lf9
  clear eS8
  generalize upd G8 x (.ins CV dx (putF "near" (.ref nr) fs7)) = G9
  generalize putF "near" (.ref nr) fs7 = fs9
  intro eX9 hG9 n9 r9 d9 k9 p9 o9 f19 f29 f39 f59 lf9
  clear hG8' nok8
  have lts : ts.length = es.length := pt.length
  have les := pf.el
  -- the first loop
  refine ⟨_, rfl, x, CV, dx, fs9, _, rfl, hG9, hc, T.nV _ (by simp), f39, rd, _, rfl, Sx.sq (.inr d9), fun J Gq g0 gE wk => ?_⟩
  refine for_it wk (fun i τ G' => ∃ (v4 v5 v6 v7 v8 : Option V) (L : List Addr), τ = [some (.ref x), some (.ref b1), some (.ref b2), some (.ref b3), v4, v5, v6, v7, v8] ∧ KN [] G9 G' ∧ Ext L G9 G' ∧ (∀ c ∈ L, ∃ l, G' c = some (.lst l)) ∧ Ext [x] H G' ∧ NrOk H ns (2 * i) kvs G')
    ⟨none, none, none, none, none, [], rfl, .refl, .rfl, fun c hc => by simp at hc, eX9, o9⟩ (fun i τ G' _ ⟨_, _, _, _, _, L, _, kn, e, lL, _⟩ => gE L G' (fun m => by
      obtain ⟨l, hl⟩ := lL rd m
      rw [kn.at0 d9 (fun _ z => by cases z)] at hl
      cases hl) e) (fun i y τ Ga Gb lt I yy => ?_) (fun τ Ga I => ?_)
  · obtain ⟨v4, v5, v6, v7, v8, L, rfl, kn, e, lL, eX, nok⟩ := I
    obtain ⟨rfl, hy⟩ := yy
    have hei : es[i]? = some es[i] := List.getElem?_eq_getElem (by omega)
    generalize hE : es[i] = ed at hei
    obtain ⟨c, rfl, hcc⟩ := (pair_at p9 hy hei)
    have hcc := kn.at0 hcc (fun _ z => by cases z)
    obtain ⟨m1, m2⟩ := pf.mem ed (List.mem_of_getElem? hei)
    have hGa := kn.at0 hG9 (fun _ z => by cases z)
    have hka := kn.at0 k9 (fun _ z => by cases z)
    refine ⟨c, _, rfl, .inl (.inl hcc), rfl, _, _, rfl, _, _, rfl, rfl, ?_⟩
    obtain ⟨b, l, w1, w2, w3, w4⟩ := nok _ m1
    refine ⟨_, rfl, x, CV, dx, fs9, _, rfl, hGa, hc, T.nV _ (by simp), f59, _, rfl, nr, .ref b, rfl, by rw [← w1]; exact DGet.k (k := .inr ed.1) hka, tyl w2, _, rfl, b, _, _, rfl, rfl, w2, lenZ (by rw [List.length_map]; omega), ?_⟩
    have kn2 := kn.trans (KN.lst (l' := l.map V.str ++ [V.str ed.2]) w2)
    have nok2 := nok.app (z := ed.2) w2 w3
    have hGb := kn2.at0 hG9 (fun _ z => by cases z)
    have hkb := kn2.at0 k9 (fun _ z => by cases z)
    have e2' : Ext (b :: L) G9 (upd Gb b (.lst (l.map V.str ++ [V.str ed.2]))) := (e.wide fun c hc => List.mem_cons_of_mem _ hc).putL (by simp)
    have eX2 : Ext [x] H (upd Gb b (.lst (l.map V.str ++ [V.str ed.2]))) := eX.put w4
    have lL2 : ∀ c ∈ b :: L, ∃ l', (upd Gb b (.lst (l.map V.str ++ [V.str ed.2]))) c = some (.lst l') := fun c hc => by
      by_cases q : c = b
      · rw [q]; exact ⟨_, upd_same⟩
      · rw [upd_ne q]
        exact lL c ((List.mem_cons.mp hc).resolve_left q)
    revert kn2 nok2 hGb hkb e2' eX2 lL2
    generalize upd Gb b (.lst (l.map V.str ++ [V.str ed.2])) = Gc
    intro kn2 nok2 hGb hkb e2' eX2 lL2
    obtain ⟨c2, l2, y1, y2, y3, y4⟩ := nok2 _ m2
    refine ⟨_, rfl, x, CV, dx, fs9, _, rfl, hGb, hc, T.nV _ (by simp), f59, _, rfl, nr, .ref c2, rfl, by rw [← y1]; exact DGet.k (k := .inr ed.2) hkb, tyl y2, _, rfl, c2, _, _, rfl, rfl, y2, lenZ (by rw [List.length_map]; omega), ?_⟩
    refine ⟨_, _, _, _, _, c2 :: b :: L, rfl, kn2.trans (KN.lst y2), (e2'.wide fun c hc => List.mem_cons_of_mem _ hc).putL (by simp), fun c hc => ?_, eX2.put y4, ?_⟩
    · by_cases q : c = c2
      · rw [q]; exact ⟨_, upd_same⟩
      · rw [upd_ne q]
        exact lL2 c ((List.mem_cons.mp hc).resolve_left q)
    · have := nok2.app (z := ed.1) y2 y3
      rw [show 2 * (i + 1) = 2 * i + 1 + 1 by omega]
      exact this
  obtain ⟨v4, v5, v6, v7, v8, L, rfl, kn, _, _, eXa, noka⟩ := I
  have hGa := kn.at0 hG9 (fun _ z => by cases z)
  have hka := kn.at0 k9 (fun _ z => by cases z)
  have na := kn.at0 n9 (fun _ z => by cases z)
  have ra := kn.at0 r9 (fun _ z => by cases z)
  have da := kn.at0 d9 (fun _ z => by cases z)
  have pa := pair_map p9 fun u v z => z.extN kn
  have nok200 : NrOk H ns 200 kvs Ga := fun y hy => by
    obtain ⟨b, l, w1, w2, w3, w4⟩ := noka y hy
    exact ⟨b, l, w1, w2, by omega, w4⟩
  have nrx : nr ≠ x := fun q => by rw [q, hGa] at hka; cases hka
  have nrn : nb ≠ nr := fun q => by rw [q, hka] at na; cases na
  have nrr : D ≠ nr := fun q => by
    rw [q] at r7
    exact absurd (r7.symm.trans hnr) (by simp)
  have nrd : rd ≠ nr := fun q => by rw [q, hka] at da; cases da
  -- the second loop
  refine ⟨_, rfl, x, CV, dx, fs9, _, rfl, hGa, hc, T.nV _ (by simp), f19, nb, _, rfl, Sx.sq (.inr na), fun J2 Gq2 g02 gE2 wk2 => ?_⟩
  refine for_it wk2 (fun i τ G' => ∃ (v4 v5 v6 v7 v8 : Option V) (kvs : List (Key × V)), τ = [some (.ref x), some (.ref b1), some (.ref b2), some (.ref b3), v4, v5, v6, v7, v8] ∧ Ext [nr] Ga G' ∧ Ext [x] H G' ∧ G' nr = some (.dK kvs) ∧ kvs.length ≤ 60 + i ∧ NrOk H ns 200 kvs G')
    ⟨_, _, _, _, _, kvs, rfl, .rfl, eXa, hka, by omega, nok200⟩ (fun i τ G' _ ⟨_, _, _, _, _, _, _, e, _⟩ => gE2 [nr] G' (by simpa using nrn) e) (fun i y τ Gb Gc lt I yy => ?_) (fun τ Gb I => ?_)
  · obtain ⟨v4, v5, v6, v7, v8, kvs, rfl, e, eX, hkv, lkv, nok⟩ := I
    obtain ⟨rfl, hy⟩ := yy
    obtain ⟨z, rfl, hz, mz⟩ := at_str hy
    have hGb := e.at1 (Ne.symm nrx) hGa
    have nb1 := e.at1 nrn na
    obtain ⟨b, l, w1, w2, w3, w4⟩ := nok z mz
    refine ⟨_, rfl, x, CV, dx, fs9, _, rfl, hGb, hc, T.nV _ (by simp), f19, nb, _, rfl, Sx.sq (.inr nb1), fun J3 Gq3 g03 gE3 wk3 D3 hD3 => lc_run wk3 (fun H' e => gE3 [] H' (by simp) e) hD3 (fun k acc _ => ∃ l : List PySem.Str, acc = l.map V.str ∧ l.length ≤ k) ⟨[], rfl, Nat.le_refl _⟩ (fun k y2 G1 G2 lt2 I2 yy2 => ?_) fun acc G1 e1' hacc rr => ?_⟩
    · obtain ⟨rfl, hy2⟩ := yy2
      obtain ⟨z2, rfl, hz2, mz2⟩ := at_str hy2
      obtain ⟨e0, acc, hacc, la, l', rfl, ll'⟩ := I2
      refine ⟨rfl, _, rfl, _, rfl, x, CV, dx, fs9, _, rfl, e0.at0 hGb, hc, T.nV _ (by simp), f59, _, rfl, nr, .ref b, rfl, by rw [← w1]; exact DGet.k (k := .inr z) (e0.at0 hkv), b, l.map V.str, rfl, .inl (.inl (.inl (e0.at0 w2))), rfl, flat_strs, _, rfl, ite2 (fun _ => ⟨_, rfl, ?_⟩) fun _ => ⟨e0, _, hacc, Nat.le_succ_of_le la, l', rfl, Nat.le_succ_of_le ll'⟩⟩
      exact lcp hD3 e0 hacc la (by omega) ⟨l' ++ [z2], by rw [List.map_append]; rfl, by rw [List.length_append]; exact Nat.succ_le_succ ll'⟩
    · obtain ⟨l', rfl, ll'⟩ := rr
      rw [lns] at ll'
      have hG1 := e1'.at0 hGb
      have hk1 := e1'.at0 hkv
      have nD3 : D3 ≠ nr := fun q => by rw [q, hkv] at hD3; cases hD3
      refine ⟨_, rfl, x, CV, dx, fs9, _, rfl, hG1, hc, T.nV _ (by simp), f59, _, rfl, nr, _, rfl, DPut.k (k := .inr z) hk1 (lenZ (by rw [lns] at lt; omega)), ?_⟩
      have hD3H : H D3 = none := eX.free1 (fun q => by rw [q, hGb] at hD3; cases hD3) hD3
      refine ⟨_, _, _, _, _, _, rfl, (e.trans e1'.of0).putL (by simp), (eX.trans e1'.of0).put hnrH, upd_same, Nat.le_trans (length_putK ..) (by omega), fun y hy => ?_⟩
      by_cases q : y = z
      · subst q
        exact ⟨D3, l', by rw [valV_put, if_pos rfl], by rw [upd_ne nD3]; exact hacc, by omega, hD3H⟩
      · obtain ⟨b', l2, u1, u2, u3, u4⟩ := nok y hy
        refine ⟨b', l2, by rw [valV_put, if_neg (fun e => q (Sum.inr.inj e))]; exact u1, ?_, u3, u4⟩
        have u2' := e1'.at0 u2
        rw [upd_ne (fun e => by rw [e, hk1] at u2'; cases u2')]
        exact u2'
  obtain ⟨v4, v5, v6, v7, v8, kvs2, rfl, eb, eXb, _, _, _⟩ := I
  have hGb := eb.at1 (Ne.symm nrx) hGa
  have nb2 := eb.at1 nrn na
  have rb2 := eb.at1 nrr ra
  have db2 := eb.at1 nrd da
  have pb2 := pair_map pa fun u v z => z.ext1 eb (fun q => by rw [hka] at q; cases q)
  -- places
  intro pl hpl
  have hGc := (ext_new (L := []) (o := .dT []) hpl).at0 hGb
  refine ⟨_, rfl, x, CV, dx, fs9, rfl, hGc, hc, T.nV _ (by simp), by omega, ?_⟩
  have ePl : Ext [] Gb (upd Gb pl (.dT [])) := ext_new hpl
  have eSc : Ext [x] (upd Gb pl (.dT [])) (upd (upd Gb pl (.dT [])) x (.ins CV dx (putF "places" (.ref pl) fs9))) := Ext.rfl.putL (by simp)
  have eXd : Ext [x] H (upd (upd Gb pl (.dT [])) x (.ins CV dx (putF "places" (.ref pl) fs9))) := (eXb.trans ePl.of0).trans eSc
  have hGd : (upd (upd Gb pl (.dT [])) x (.ins CV dx (putF "places" (.ref pl) fs9))) x = some (.ins CV dx (putF "places" (.ref pl) fs9)) := upd_same
  have nd9 := eSc.at1 (ins_ne hGc (ePl.at0 nb2) fun _ _ _ z => by cases z) (ePl.at0 nb2)
  have rd9 := eSc.at1 (ins_ne hGc (ePl.at0 rb2) fun _ _ _ z => by cases z) (ePl.at0 rb2)
  have dd9 := eSc.at1 (ins_ne hGc (ePl.at0 db2) fun _ _ _ z => by cases z) (ePl.at0 db2)
  have ld9 := eSc.at1 (ins_ne hGc (upd_same (H := Gb) (a := pl) (o := .dT [])) fun _ _ _ z => by cases z) upd_same
  have pd9 := pair_map pb2 fun u v z => (z.ext0 ePl).extI hGc eSc
  have hplH : H pl = none := eXb.free1 (fun q => by rw [q, hGb] at hpl; cases hpl) hpl
  have f1d : (putF "places" (.ref pl) fs9).lookup ("names" : PySem.Str) = some (.ref nb) := (lk_put _ _ _ _ (by decide)).trans f19
  have f2d : (putF "places" (.ref pl) fs9).lookup ("ranks" : PySem.Str) = some (.ref D) := (lk_put _ _ _ _ (by decide)).trans f29
  have f3d : (putF "places" (.ref pl) fs9).lookup ("own_roads" : PySem.Str) = some (.ref rd) := (lk_put _ _ _ _ (by decide)).trans f39
  have f4d : (putF "places" (.ref pl) fs9).lookup ("places" : PySem.Str) = some (.ref pl) := lk_same ..
  revert eXd hGd nd9 rd9 dd9 ld9 pd9 f1d f2d f3d f4d
  clear eSc
  generalize upd (upd Gb pl (.dT [])) x (.ins CV dx (putF "places" (.ref pl) fs9)) = Gd
  generalize putF "places" (.ref pl) fs9 = fsd
  intro eXd hGd nd9 rd9 dd9 ld9 pd9 f1d f2d f3d f4d
  -- the third loop
  refine ⟨_, rfl, x, CV, dx, fsd, _, rfl, hGd, hc, T.nV _ (by simp), f3d, rd, _, rfl, Sx.sq (.inr dd9), fun J3 Gq3 g03 gE3 wk3 => ?_⟩
  have npx : pl ≠ x := fun q => by rw [q, hGd] at ld9; cases ld9
  have nprd : rd ≠ pl := fun q => by rw [q, ld9] at dd9; cases dd9
  have npn : nb ≠ pl := fun q => by rw [q, ld9] at nd9; cases nd9
  have npD : D ≠ pl := fun q => by rw [q, ld9] at rd9; cases rd9
  refine for_it wk3 (fun i τ G' => ∃ (v4 v5 v6 v7 v8 : Option V) (kvs : List (List Key × V)), τ = [some (.ref x), some (.ref b1), some (.ref b2), some (.ref b3), v4, v5, v6, v7, v8] ∧ Ext [pl] Gd G' ∧ Ext [x] H G' ∧ G' pl = some (.dT kvs) ∧ kvs.length ≤ 2 * i ∧ PlOk kvs (es.take i))
    ⟨_, _, _, _, _, [], rfl, .rfl, eXd, ld9, Nat.le_refl _, ⟨fun i e h => by simp at h, fun a b _ => rfl⟩⟩ (fun i τ G' _ ⟨_, _, _, _, _, _, _, e, _⟩ => gE3 [pl] G' (by simpa using nprd) e) (fun i y τ Ga Gb lt I yy => ?_) (fun τ Gb I => ?_)
  · obtain ⟨v4, v5, v6, v7, v8, kvs, rfl, e, eX, hkv, lkv, pok⟩ := I
    obtain ⟨t, _, y, rfl, ht, rfl, ex, hy⟩ := yy
    cases ex
    have hy : ts[i]? = some y := hy
    have hei : es[i]? = some es[i] := List.getElem?_eq_getElem (by omega)
    generalize hE : es[i] = ed at hei
    obtain ⟨c, rfl, hcc⟩ := (pair_at pd9 hy hei)
    have hcc1 := e.at1 (fun q => by rw [q, ld9] at hcc; cases hcc) hcc
    have eT : Ext [] Ga (upd Ga t (.tup [.int (i : Nat), .ref c])) := ext_new ht
    refine ⟨t, _, rfl, .inl (.inl upd_same), rfl, _, _, rfl, _, _, rfl, ⟨c, _, rfl, .inl (.inl (eT.at0 hcc1)), rfl, _, _, rfl, _, _, rfl, rfl, rfl, ?_⟩⟩
    have hG1 := eT.at0 (e.at1 (Ne.symm npx) hGd)
    have hk1 := eT.at0 hkv
    have eX1 : Ext [x] H (upd Ga t (.tup [.int (i : Nat), .ref c])) := eX.new ht
    have e1' : Ext [pl] Gd (upd Ga t (.tup [.int (i : Nat), .ref c])) := e.new ht
    revert hG1 hk1 eX1 e1'
    generalize upd Ga t (.tup [.int (i : Nat), .ref c]) = G1
    intro hG1 hk1 eX1 e1'
    refine ⟨_, rfl, _, rfl, by show 2 ≤ sizeLine; decide, fun p2 h2 => ⟨p2, _, rfl, .inl (.inl upd_same), rfl, _, _, rfl, ?_⟩⟩
    have eP : Ext [] G1 (upd G1 p2 (.tup [.int (i : Nat), .int (i : Nat)])) := ext_new h2
    refine ⟨_, rfl, x, CV, dx, fsd, _, rfl, eP.at0 hG1, hc, T.nV _ (by simp), f4d, _, rfl, _, rfl, by show 2 ≤ sizeLine; decide, fun p3 h3 => ?_⟩
    have eP3 : Ext [] G1 (upd (upd G1 p2 (.tup [.int (i : Nat), .int (i : Nat)])) p3 (.tup [.str ed.1, .str ed.2])) := eP.new h3
    refine ⟨pl, _, rfl, DPut.t (k := [.inr ed.1, .inr ed.2]) (eP3.at0 hk1) upd_same (lenZ (by omega)), ?_⟩
    have eX3 : Ext [x] H (upd (upd (upd G1 p2 (.tup [.int (i : Nat), .int (i : Nat)])) p3 (.tup [.str ed.1, .str ed.2])) pl (.dT (putK kvs [.inr ed.1, .inr ed.2] (.int (i : Nat))))) := (eX1.trans eP3.of0).put hplH
    have e3' : Ext [pl] Gd (upd (upd (upd G1 p2 (.tup [.int (i : Nat), .int (i : Nat)])) p3 (.tup [.str ed.1, .str ed.2])) pl (.dT (putK kvs [.inr ed.1, .inr ed.2] (.int (i : Nat))))) := (e1'.trans eP3.of0).putL (by simp)
    have hG3 : (upd (upd (upd G1 p2 (.tup [.int (i : Nat), .int (i : Nat)])) p3 (.tup [.str ed.1, .str ed.2])) pl (.dT (putK kvs [.inr ed.1, .inr ed.2] (.int (i : Nat))))) x = some (.ins CV dx fsd) := by
      rw [upd_ne (Ne.symm npx)]
      exact eP3.at0 hG1
    have hk3 : (upd (upd (upd G1 p2 (.tup [.int (i : Nat), .int (i : Nat)])) p3 (.tup [.str ed.1, .str ed.2])) pl (.dT (putK kvs [.inr ed.1, .inr ed.2] (.int (i : Nat))))) pl = some (.dT (putK kvs [.inr ed.1, .inr ed.2] (.int (i : Nat)))) := upd_same
    revert eX3 e3' hG3 hk3
    generalize upd (upd (upd G1 p2 (.tup [.int (i : Nat), .int (i : Nat)])) p3 (.tup [.str ed.1, .str ed.2])) pl (.dT (putK kvs [.inr ed.1, .inr ed.2] (.int (i : Nat)))) = G3
    intro eX3 e3' hG3 hk3
    have lk3 : (putK kvs [.inr ed.1, .inr ed.2] (.int (i : Nat))).length ≤ 2 * i + 1 := Nat.le_trans (length_putK ..) (by omega)
    refine ⟨_, _, rfl, _, rfl, x, CV, dx, fsd, _, rfl, hG3, hc, T.nV _ (by simp), f4d, _, rfl, _, rfl, by show 2 ≤ sizeLine; decide, fun p4 h4 => ?_⟩
    have eP4 : Ext [] G3 (upd G3 p4 (.tup [.str ed.2, .str ed.1])) := ext_new h4
    refine ⟨pl, _, rfl, DPut.t (k := [.inr ed.2, .inr ed.1]) (eP4.at0 hk3) upd_same (lenZ (by omega)), rfl, ?_⟩
    refine ⟨_, _, _, _, _, _, rfl, (e3'.trans eP4.of0).putL (by simp), (eX3.trans eP4.of0).put hplH, upd_same, Nat.le_trans (length_putK ..) (by omega), ?_⟩
    exact pok.step pf.acy hei
  · obtain ⟨v4, v5, v6, v7, v8, kvs, rfl, e, eX, hkv, lkv, pok⟩ := I
    rw [lts, List.take_of_length_le (Nat.le_refl _)] at pok
    refine q Gb eX ⟨x, dx, fsd, nb, D, rd, pl, ts, kvs, rfl, e.at1 (Ne.symm npx) hGd, f1d, f2d, f3d, f4d, e.at1 npn nd9, e.at1 npD rd9, e.at1 nprd dd9, pair_map pd9 fun u v z => z.ext1 e (fun q => by rw [ld9] at q; cases q), hkv, pok⟩
end
end K70

/-! K7D: a valley of a form. -/
namespace K70
open PySem PySem.Spec PyProof.Rows L2 LamX
section
variable {P : Program} {w : World} {K : PySem.W.Frag} {mg : Str → Option Value} {base : Heap} {CV CG CB : Addr}
theorem Src.not {H : Hp} {a b : Addr} {o : HO} (h : Src H a) (g : H b = some o) (n : ∀ l, o ≠ .lst l) : b ≠ a := fun z => by
  obtain ⟨_, _, _, y⟩ := h
  rw [z, y] at g
  exact n _ (Option.some.inj g).symm
theorem Src.off1 {H H' : Hp} {a b : Addr} {o : HO} (h : Src H a) (e : Ext [a] H H') (g : H b = some o) (n : ∀ l, o ≠ .lst l) : H' b = some o := e.at1 (h.not g n) g
theorem Vy.ext {H H' : Hp} {a : Addr} {v : V} {ns : List PySem.Str} {es : List Ed} (h : Vy CV H v ns es) (e : Ext [a] H H') (sr : Src H a) : Vy CV H' v ns es := by
  obtain ⟨x, dx, fs, nb, rk, rd, pl, ts, kvs, rfl, y⟩ := h
  exact ⟨x, dx, fs, nb, rk, rd, pl, ts, kvs, rfl, sr.off1 e y.o (fun _ z => by cases z), y.f1, y.f2, y.f3, y.f4, sr.off1 e y.n (fun _ z => by cases z), sr.off1 e y.r (fun _ z => by cases z), sr.off1 e y.d (fun _ z => by cases z), pair_map y.p fun u w z => z.ext e sr, sr.off1 e y.l (fun _ z => by cases z), y.lk⟩
theorem Vy.ext0 {H H' : Hp} {v : V} {ns : List PySem.Str} {es : List Ed} (h : Vy CV H v ns es) (e : Ext [] H H') : Vy CV H' v ns es := by
  obtain ⟨x, dx, fs, nb, rk, rd, pl, ts, kvs, rfl, y⟩ := h
  exact ⟨x, dx, fs, nb, rk, rd, pl, ts, kvs, rfl, e.at0 y.o, y.f1, y.f2, y.f3, y.f4, e.at0 y.n, e.at0 y.r, e.at0 y.d, pair_map y.p fun u w z => z.ext0 e, e.at0 y.l, y.lk⟩
theorem Fo.ext {H H' : Hp} {a : Addr} {f : V} {ns : List PySem.Str} {es : List Ed} {hs : List Int} (h : Fo a H f ns es hs) (e : Ext [a] H H') (sr : Src H a) : Fo a H' f ns es hs := by
  obtain ⟨fa, n, r, hh, rs, rfl, n1, n2, n3, y⟩ := h
  exact ⟨fa, n, r, hh, rs, rfl, n1, n2, n3, sr.off1 e y.t (fun _ z => by cases z), e.at1 n1 y.n, e.at1 n2 y.r, pair_map y.p fun u w z => z.ext e sr, e.at1 n3 y.h⟩
theorem atm_eq {L : List Addr} {H : Hp} {vs ks : List V} (h : Paired (AtmA L H) vs ks) : vs = ks := by
  induction h with
  | nil => rfl
  | cons r _ ih => rw [r.1, ih]
theorem atm_mk {L : List Addr} {H : Hp} : ∀ {ks : List V}, (∀ k ∈ ks, (∃ z, k = .str z) ∨ ∃ i, k = .int i) → Paired (AtmA L H) ks ks
  | [], _ => .nil
  | k :: ks, h => .cons ⟨rfl, h k (by simp)⟩ (atm_mk fun j hj => h j (List.mem_cons_of_mem _ hj))
abbrev eV (e : Ed) : List V := [.str e.1, .str e.2]
theorem up_pair {a : Addr} {H : Hp} {x : V} {e : Ed} (h : Up AtmA [a] H x (eV e)) : PairE H x e := by
  obtain ⟨b, vs, rfl, _, sx, _, p⟩ := h
  rw [atm_eq p] at sx
  exact ⟨b, rfl, sx⟩
theorem pair_mapR {α β γ : Type} {F : α → β → Prop} {G : α → γ → Prop} {f : γ → β} (h : ∀ a c, F a (f c) → G a c) : ∀ {xs : List α} {ys : List γ}, Paired F xs (ys.map f) → Paired G xs ys
  | [], [], _ => .nil
  | _ :: _, _ :: _, .cons r p => .cons (h _ _ r) (pair_mapR h p)
theorem pair_mapL {α β γ : Type} {F : α → β → Prop} {G : α → γ → Prop} {f : γ → β} (h : ∀ a c, G a c → F a (f c)) : ∀ {xs : List α} {ys : List γ}, Paired G xs ys → Paired F xs (ys.map f)
  | [], [], _ => .nil
  | _ :: _, _ :: _, .cons r p => .cons (h _ _ r) (pair_mapL h p)
theorem tup_up {a : Addr} {H : Hp} {x : V} {e : Ed} (sr : Src H a) (h : TupE H x e) : Up AtmA [a] H x (eV e) := by
  obtain ⟨b, rfl, g⟩ := h
  refine ⟨b, eV e, rfl, ?_, .inr g, by show 2 ≤ 1000; decide, atm_mk fun k hk => ?_⟩
  · simpa using sr.not g fun _ z => by cases z
  · simp only [List.mem_cons, List.not_mem_nil, or_false] at hk
    rcases hk with rfl | rfl
    · exact .inl ⟨_, rfl⟩
    · exact .inl ⟨_, rfl⟩
def spValley (CV : Addr) : Sp := fun vs H Q _ => ∃ (a : Addr) (f : V) (ns : List PySem.Str) (es : List Ed) (hs : List Int), vs = [.ref a, f] ∧ Src H a ∧ Fo a H f ns es hs ∧ Pf ns es hs ∧ ∀ H' v, Ext [a] H H' → Src H' a → Vy CV H' v ns es → Q v H'
abbrev N__law_f_valley : List PySem.Str := ["_law_source_here", "_law_form"]
theorem sc__law_f_valley : FnScope N__law_f_valley ["_law_source_here", "_law_form"] (defScope (topS 47)) := ⟨rfl, rfl, rfl, by decide +kernel, rfl, by decide +kernel, by decide +kernel⟩
theorem bb__law_f_valley : BindsBy "_law_f_valley" (topS 47) ["_law_source_here", "_law_form"] := fun _ _ _ _ _ _ us hl => match us, hl with | [_, _], _ => rfl
theorem ok_valley (T : Tx P K mg CV CG CB) (D : Df K mg "_law_f_valley" (topS 47)) {fi : Addr} {fd : FuncData} (F : FunD K "__init__" "Valley.__init__" (defArgs (inClass (topS 17) 0)) (defBody (inClass (topS 17) 0)) (defScope (inClass (topS 17) 0)) [] [] fi fd) (M : Mk K CV fi)
    (FI : FnOk P w K mg base CX0 4 fi fd ["self", "houses", "roads", "heads"] (spInit CV)) (c_lo1 : Cl P w K mg base CX0 2 "_law_loose" (spLoG (Up AtmA))) (c_lo2 : Cl P w K mg base CX0 3 "_law_loose" (spLoG (Up (Up AtmA)))) : Cl P w K mg base CX0 6 "_law_f_valley" (spValley CV) := by
  refine D.cl0 sc__law_f_valley bb__law_f_valley (fun vs H Q E ⟨x, _, _, _, _, e, _⟩ => by rw [e]; rfl) fun f cdv A outer s H vs Q E hr h => ?_
  have nd := sc__law_f_valley.nd
  obtain ⟨a, f, ns, es, hs, rfl, ha, fo, pf, q⟩ := h
  refine ⟨_, (pss_one (ps_ret (pe_make (dvs := []) M FI (hr.mono (by decide)) (by rfl) T.gValley (F.bindsN bb_v_init) .nil pass0 (pa_cons (pe_k c_lo1 hr pass0 (pa_cons (pv 0) (pa_cons (pe_ix ix_seq (pv 1) pe_int (fun _ _ => rfl)) pa_nil))) (pa_cons (pe_k c_lo2 hr pass0 (pa_cons (pv 0) (pa_cons (pe_ix ix_seq (pv 1) pe_int (fun _ _ => rfl)) pa_nil))) (pa_cons (pe_k c_lo1 hr pass0 (pa_cons (pv 0) (pa_cons (pe_ix ix_seq (pv 1) pe_int (fun _ _ => rfl)) pa_nil))) pa_nil)))))), ?_⟩
  obtain ⟨fa, n, r, hh, rs, rfl, na1, na2, na3, y⟩ := id fo
  have lns : (ns.map V.str).length = ns.length := List.length_map ..
  have pn2 := pf.n2
  have pel := pf.el
  have phl := pf.hl
  have dom : ∀ {G : Hp}, Src G a → ∀ b ∈ [a], G b ≠ none := fun sr b hb => by rw [List.mem_singleton.mp hb]; exact sr.ne
  refine ⟨_, rfl, _, rfl, ix_at (j := 0) (.inr y.t) rfl ⟨a, [a], .ref n, ns.map V.str, rfl, by simp, dom ha, ha, ⟨n, _, rfl, by simpa using na1, .inl y.n, by omega, atm_mk fun k hk => ?_⟩, fun H1 y1 e1 sr1 u1 => ?_⟩⟩
  · obtain ⟨z, _, rfl⟩ := List.mem_map.mp hk
    exact .inl ⟨z, rfl⟩
  have y1' := (fo.ext e1 ha)
  obtain ⟨b1, v1, rfl, nb1, sx1, _, pp1⟩ := u1
  rw [atm_eq pp1] at sx1
  have nb1 : b1 ≠ a := by simpa using nb1
  have lrs := y.p.length
  refine ⟨_, rfl, _, rfl, ix_at (j := 1) (.inr (ha.off1 e1 y.t fun _ z => by cases z)) rfl ⟨a, [a], .ref r, es.map eV, rfl, by simp, dom sr1, sr1, ⟨r, _, rfl, by simpa using na2, .inl (e1.at1 na2 y.r), by omega, pair_mapL (fun v e h => tup_up sr1 (h.ext e1 ha)) y.p⟩, fun H2 y2 e2 sr2 u2 => ?_⟩⟩
  obtain ⟨b2, v2, rfl, nb2, sx2, _, pp2⟩ := u2
  have nb2 : b2 ≠ a := by simpa using nb2
  have pe2 := pair_mapR (fun v e h => h) pp2
  have e12 : Ext [a] H H2 := e1.trans e2
  refine ⟨_, rfl, _, rfl, ix_at (j := 2) (.inr (ha.off1 e12 y.t fun _ z => by cases z)) rfl ⟨a, [a], .ref hh, hs.map V.int, rfl, by simp, dom sr2, sr2, ⟨hh, _, rfl, by simpa using na3, .inl (e12.at1 na3 y.h), by rw [List.length_map]; omega, atm_mk fun k hk => ?_⟩, fun H3 y3 e3 sr3 u3 => ?_⟩⟩
  · obtain ⟨z, _, rfl⟩ := List.mem_map.mp hk
    exact .inr ⟨z, rfl⟩
  obtain ⟨b3, v3, rfl, nb3, sx3, _, pp3⟩ := u3
  rw [atm_eq pp3] at sx3
  have sx1' := sx1.ext (e2.trans e3) (by simpa using nb1)
  have sx2' := sx2.ext e3 (by simpa using nb2)
  have pe3 := pair_mapR (f := eV) (G := fun v e => PairE H3 v e) (fun v e h => up_pair ((stb_atm.up).ext [a] H2 H3 v _ e3 h)) pp2
  intro x dx hx hdx ne
  have eM : Ext [] H3 (upd (upd H3 dx (.own x)) x (.ins CV dx [])) := (ext_new hdx).new (by rw [upd_ne (Ne.symm ne)]; exact hx)
  refine ⟨x, dx, b1, b2, b3, ns, v2, es, hs, rfl, upd_same, sx1'.ext eM, sx2'.ext eM, pair_map pe3 fun u w z => z.ext0 eM, sx3.ext eM, pf, fun H' e' vy => ⟨rfl, ?_⟩⟩
  have eT : Ext [] H3 H' := fun b o _ hb => by
    have n1 : b ≠ x := ne_of_none hb hx
    have hb2 := eM.at0 hb
    exact e'.at1 n1 hb2
  exact q H' _ ((e12.trans e3).trans eT.of0) (sr3.ext eT) vy
end
end K70

/-! K7E: roads known to a valley. -/
namespace K70
open PySem PySem.Spec PyProof.Rows L2 LamX
section
variable {P : Program} {w : World} {K : PySem.W.Frag} {mg : Str → Option Value} {base : Heap} {CV CG CB : Addr}
/-- how road_in answers at thing -/
inductive RdIn (H : Hp) (ns : List PySem.Str) (es : List Ed) : V → Option Ed → Prop
  | good {c : Addr} {x y : PySem.Str} {e : Ed} (h : Sx H c [.str x, .str y]) (m : e ∈ es) (s : (x, y) = e ∨ (y, x) = e) : RdIn H ns es (.ref c) (some e)
  | kind {t : V} {s : String} (h : Kd H t s) (n : (kb s "list" || kb s "tuple") = false) : RdIn H ns es t none
  | len {c : Addr} {xs : List V} (h : Sx H c xs) (n : xs.length ≠ 2) (l : xs.length ≤ 5000) : RdIn H ns es (.ref c) none
  | no {c : Addr} {x y : PySem.Str} (h : Sx H c [.str x, .str y]) (n : x ∉ ns ∨ y ∉ ns ∨ x = y) : RdIn H ns es (.ref c) none
theorem RdIn.ext {H H' : Hp} {ns : List PySem.Str} {es : List Ed} {t : V} {o : Option Ed} (e : Ext [] H H') : RdIn H ns es t o → RdIn H' ns es t o
  | .good h m s => .good (h.ext e) m s
  | .kind h n => .kind (h.ext e) n
  | .len h n l => .len (h.ext e) n l
  | .no h n => .no (h.ext e) n
/-- what it gives: a road of the valley's own, or None -/
def RdV (H : Hp) (v : V) : Option Ed → Prop
  | some e => TupE H v e
  | none => v = .non
theorem RdV.ext {H H' : Hp} {v : V} (x : Ext [] H H') : ∀ {o : Option Ed}, RdV H v o → RdV H' v o
  | some _, h => h.ext0 x
  | none, h => h
def spRoadIn (CV : Addr) : Sp := fun vs H Q _ => ∃ (v t : V) (ns : List PySem.Str) (es : List Ed) (o : Option Ed), vs = [v, t] ∧ Vy CV H v ns es ∧ Acy es ∧ (∀ e ∈ es, e.1 ∈ ns ∧ e.2 ∈ ns) ∧ RdIn H ns es t o ∧ ∀ H' u, Ext [] H H' → RdV H' u o → Q u H'
abbrev N_road_in : List PySem.Str := ["valley", "thing", "name", "place"]
theorem sc_road_in : FnScope N_road_in ["valley", "thing"] (defScope (topS 22)) := ⟨rfl, rfl, rfl, by decide +kernel, rfl, by decide +kernel, by decide +kernel⟩
theorem bb_road_in : BindsBy "road_in" (topS 22) ["valley", "thing"] := fun _ _ _ _ _ _ us hl => match us, hl with | [_, _], _ => rfl
theorem ok_road_in (T : Tx P K mg CV CG CB) (D : Df K mg "road_in" (topS 22)) (c_is_list : Cl P w K mg base CX0 1 "is_list" spIsList) (c_is_among : Cl P w K mg base CX0 1 "is_among" spAmong) : Cl P w K mg base CX0 2 "road_in" (spRoadIn CV) := by
  refine D.cl0 sc_road_in bb_road_in (fun vs H Q E ⟨x, _, _, _, _, e, _⟩ => by rw [e]; rfl) fun f cdv A outer s H vs Q E hr h => ?_
  have nd := sc_road_in.nd
  obtain ⟨v, t, ns, es, o, rfl, vy, acy, mem, ri, q⟩ := h
  refine ⟨_, (pss_cons (ps_if ((pw_or (pt_not (pt_val (pe_k c_is_list hr pass0 (pa_cons (pv 1) pa_nil)))) (pw_or (pt_cmpR op_ne (pe_callB call_len_seq (by rfl) T.len bi_len (pa_cons (pv 1) pa_nil)) pe_int (nomark _)) (pw_or1 (pt_not (pt_val (pe_callB (cr_all rfl) (by rfl) T.all bi_all (pa_cons (pe_lc (own := [("name", 2)]) (g := gName 2) (tt := tYes) rfl nd (pi_seq (pv 1)) (blkOk_by (N := N_road_in) (sc := defScope (topS 22)) (by decide +kernel)) (fun _ _ _ _ _ => (pg_name (i := 2) nd rfl (.inl rfl))) (fun _ _ _ _ _ => pts_nil) (fun _ _ _ _ _ => (pe_k c_is_among hr pass0 (pa_cons (pe_fldK (Kq := K) rfl (pv 0) rfl) (pa_cons (pv 2) pa_nil))))) pa_nil)))))))).pt (pss_one (ps_ret pe_non)) pss_nil)
  (pss_cons (ps_set (i := 3) nd rfl (.inl rfl) (pe_dget2 (hu_of hr) (pe_fld (pv 0) rfl) (pe_tup (pa_cons (pe_ix ix_seq (pv 1) pe_int (fun _ _ => rfl)) (pa_cons (pe_ix ix_seq (pv 1) pe_int (fun _ _ => rfl)) pa_nil))) pe_non ⟨rfl, rfl, rfl, rfl⟩))
  (pss_one (ps_ret (pe_ifExp (pt_cmpR op_isN (pv 3) pe_non (nomark _)) pe_non (pe_ix ix_seq (pe_fld (pv 0) rfl) (pv 3) (fun _ _ => rfl))))))), ?_⟩
  obtain ⟨x, dx, fs, nb, rk, rd, pl, ts, kvs, rfl, y⟩ := vy
  have hc : Cls K CV := T.iV.cl
  have cases4 : (∃ s, Kd H t s ∧ (kb s "list" || kb s "tuple") = false ∧ o = none) ∨ (∃ c xs, t = .ref c ∧ Sx H c xs ∧ xs.length ≠ 2 ∧ xs.length ≤ 5000 ∧ o = none) ∨
      ∃ c a b, t = .ref c ∧ Sx H c ([a, b].map V.str) ∧ ((∃ e, e ∈ es ∧ ((a, b) = e ∨ (b, a) = e) ∧ o = some e) ∨ (o = none ∧ (a ∉ ns ∨ b ∉ ns ∨ a = b))) := by
    cases ri with
    | kind h n => exact .inl ⟨_, h, n, rfl⟩
    | len h n l => exact .inr (.inl ⟨_, _, rfl, h, n, l, rfl⟩)
    | good h m s => exact .inr (.inr ⟨_, _, _, rfl, h, .inl ⟨_, m, s, rfl⟩⟩)
    | no h n => exact .inr (.inr ⟨_, _, _, rfl, h, .inr ⟨rfl, n⟩⟩)
  rcases cases4 with ⟨s, h, n, rfl⟩ | ⟨c, xs, rfl, h, n, l, rfl⟩ | ⟨c, a, b, rfl, h, rest⟩
  · refine ⟨_, rfl, _, _, rfl, h, fun H1 e1 => ?_⟩
    rw [n]
    exact ⟨_, rfl, q H1 .non e1 rfl⟩
  · obtain ⟨kd, hk, kb1, _⟩ := h.kd
    refine ⟨_, rfl, _, _, rfl, hk, fun H1 e1 => ?_⟩
    rw [kb1]
    refine ⟨_, rfl, _, rfl, c, xs, rfl, (h.ext e1).sqE, rfl, _, rfl, itB (by
      simp only [Bool.not_eq_true', decide_eq_false_iff_not]
      exact fun z => n (by have z := V.int.inj z; omega)) ?_⟩
    exact q H1 .non e1 rfl
  · obtain ⟨kd, hk, kb1, _⟩ := h.kd
    refine ⟨_, rfl, _, _, rfl, hk, fun H1 e1 => ?_⟩
    rw [kb1]
    have h1 := h.ext e1
    refine ⟨_, rfl, _, rfl, c, _, rfl, h1.sqE, rfl, _, rfl, ?_⟩
    refine ⟨_, rfl, c, _, rfl, h1.sq, fun J Gz gz0 gzE wk D2 hD2 => ?_⟩
    refine lc_run wk (fun H' e => gzE [] H' (by simp) e) hD2 (Rl [a, b] fun z => some (V.bl (decide (z ∈ ns)))) rfl (fun k u Ga Gb lt2 I2 yy => ?_) fun acc H2 e2 hacc rr => ?_
    · obtain ⟨rfl, hyy⟩ := yy
      obtain ⟨z, rfl, hz, mz⟩ := at_str hyy
      refine ⟨rfl, _, rfl, x, CV, dx, fs, _, rfl, (e1.trans I2.1).at0 y.o, hc, T.nV _ (by simp), y.f2, _, rfl, rk, _, z, rfl, (e1.trans I2.1).at0 y.r, ?_⟩
      rw [mk_some]
      exact lm_push hD2 I2 .rfl hz (by have : k < 2 := lt2; omega) rfl
    · have rr : acc = ([a, b].take 2).filterMap (fun z => some (V.bl (decide (z ∈ ns)))) := rr
      refine ⟨D2, [decide (a ∈ ns), decide (b ∈ ns)], rfl, .inl (.inl (by rw [hacc, rr]; rfl)), ?_⟩
      have e12 : Ext [] H H2 := e1.trans e2
      have hall : [decide (a ∈ ns), decide (b ∈ ns)].all id = (decide (a ∈ ns) && decide (b ∈ ns)) := by simp
      rw [hall]
      refine ⟨_, rfl, ?_⟩
      by_cases hin : a ∈ ns ∧ b ∈ ns
      · rw [decide_eq_true hin.1, decide_eq_true hin.2]
        have h2 := h1.ext e2
        refine ⟨_, rfl, x, CV, dx, fs, _, rfl, e12.at0 y.o, hc, T.nV _ (by simp), y.f4, pl, rfl, .inr ⟨kvs, .inl (e12.at0 y.l)⟩, _, rfl, ix_at (j := 0) h2 rfl ⟨_, rfl, ix_at (j := 1) h2 rfl ⟨by show 2 ≤ sizeLine; decide, fun p hp => ?_⟩⟩⟩
        have e3 : Ext [] H (upd H2 p (.tup [.str a, .str b])) := e12.new hp
        refine ⟨_, DGet.t (k := [.inr a, .inr b]) (e3.at0 y.l) upd_same, ?_⟩
        rcases rest with ⟨e, me, se, rfl⟩ | ⟨rfl, hn⟩
        · obtain ⟨i, hi⟩ := List.mem_iff_getElem?.mp me
          have hv : valV kvs [.inr a, .inr b] = some (.int (i : Nat)) := by
            rcases se with rfl | rfl
            · exact (y.lk.at_ i _ hi).1
            · exact (y.lk.at_ i _ hi).2
          rw [hv]
          have lp := y.p.length
          obtain ⟨li, _⟩ := List.getElem?_eq_some_iff.mp hi
          have lt3 : i < ts.length := by omega
          have ht : ts[i]? = some ts[i] := List.getElem?_eq_getElem lt3
          refine ⟨_, rfl, rfl, _, rfl, ?_⟩
          refine ⟨_, rfl, x, CV, dx, fs, _, rfl, e3.at0 y.o, hc, T.nV _ (by simp), y.f3, _, rfl, ix_at (.inr (e3.at0 y.d)) ht (q _ _ e3 ?_)⟩
          exact (pair_at y.p ht hi).ext0 e3
        · have ab : a = b := by
            rcases hn with z | z | z
            · exact absurd hin.1 z
            · exact absurd hin.2 z
            · exact z
          have hv : valV kvs [.inr a, .inr b] = none := y.lk.no a b fun e he => ⟨fun z => acy.ne he (by rw [← z]; exact ab), fun z => acy.ne he (by rw [← z]; exact ab.symm)⟩
          rw [hv]
          exact ⟨_, rfl, rfl, _, rfl, q _ .non e3 rfl⟩
      · have hf : (decide (a ∈ ns) && decide (b ∈ ns)) = false := by
          rw [Bool.and_eq_false_iff]
          by_cases ha : a ∈ ns
          · exact .inr (decide_eq_false fun hb => hin ⟨ha, hb⟩)
          · exact .inl (decide_eq_false ha)
        rw [hf]
        rcases rest with ⟨e, me, se, rfl⟩ | ⟨rfl, hn⟩
        · refine absurd ?_ hin
          have m := mem e me
          rcases se with rfl | rfl
          · exact m
          · exact ⟨m.2, m.1⟩
        · exact q H2 .non e12 rfl
end
end K70

/-! K7F: roads begun. -/
namespace K70
open PySem PySem.Spec PyProof.Rows L2 LamX
section
variable {P : Program} {w : World} {K : PySem.W.Frag} {mg : Str → Option Value} {base : Heap} {CV CG CB : Addr}
theorem hu65 {A : Around} {k : Nat} (hr : Room k A) : A.units + 65 < cLine := by have := hr.un; omega
theorem TupE.updL {H : Hp} {D : Addr} {l : List V} {o : HO} {v : V} {e : Ed} (hD : H D = some (.lst l)) (h : TupE H v e) : TupE (upd H D o) v e := by
  obtain ⟨c, rfl, h⟩ := h
  exact ⟨c, rfl, by rw [upd_ne (fun z => by rw [z, hD] at h; cases h)]; exact h⟩
theorem RdV.updL {H : Hp} {D : Addr} {l : List V} {o : HO} {v : V} (hD : H D = some (.lst l)) : ∀ {e : Option Ed}, RdV H v e → RdV (upd H D o) v e
  | some _, h => TupE.updL hD h
  | none, h => h
def dOf : Option Ed → PyData
  | none => .none
  | some e => .tuple [.str e.1, .str e.2]
theorem dp_tup {K : PySem.W.Frag} {H : Hp} {v : V} {e : Ed} (h : TupE H v e) : Dp K H v (.tuple [.str e.1, .str e.2]) := by
  obtain ⟨c, rfl, h⟩ := h
  exact .tup (.inl (.inl h)) (.cons (.str _) (.cons (.str _) .nil))
theorem dpAll_rd {K : PySem.W.Frag} {H : Hp} : ∀ {vs : List V} {os : List (Option Ed)}, Paired (RdV H) vs os → DpAll K H vs (os.map dOf)
  | [], [], _ => .nil
  | _ :: _, some e :: _, .cons r p => .cons (dp_tup r) (dpAll_rd p)
  | _ :: _, none :: _, .cons r p => .cons (by rw [show _ = V.non from r]; exact .non) (dpAll_rd p)
theorem any_none : ∀ {os : List (Option Ed)}, ((os.map dOf).any fun z => PyData.eqv z .none) = os.any Option.isNone
  | [] => rfl
  | none :: os => by
    have ih := any_none (os := os)
    simp only [List.map_cons, List.any_cons, ih]
    rfl
  | some e :: os => by
    have ih := any_none (os := os)
    simp only [List.map_cons, List.any_cons, ih]
    rfl
theorem lay_os : ∀ {os : List (Option Ed)}, (∀ e, some e ∈ os → PyData.strOk e.1 = true ∧ PyData.strOk e.2 = true) → PyData.canLayAll0 (os.map dOf) = true ∧ PyData.depthAll (os.map dOf) ≤ 1
  | [], _ => ⟨rfl, Nat.zero_le _⟩
  | o :: os, h => by
    obtain ⟨h1, h2⟩ := lay_os (os := os) fun e he => h e (List.mem_cons_of_mem _ he)
    cases o with
    | none => exact ⟨by simp [PyData.canLayAll0, PyData.canLay0, dOf, h1], by simp [PyData.depthAll, PyData.depth, dOf]; exact h2⟩
    | some e =>
      obtain ⟨g1, g2⟩ := h e (by simp)
      exact ⟨by simp [PyData.canLayAll0, PyData.canLay0, dOf, h1, g1, g2], by simp only [List.map_cons, PyData.depthAll, PyData.depth, dOf]; exact Nat.max_le.mpr ⟨Nat.le_refl _, h2⟩⟩
theorem allN_ok : ∀ z ∈ allN, PyData.strOk z = true := fun z hz => List.all_eq_true.mp (show (allN.all fun z => PyData.strOk z) = true by decide +kernel) z hz
abbrev kE (e : Ed) : List Key := [.inr e.1, .inr e.2]
theorem kE_inj {a b : Ed} (h : kE a = kE b) : a = b := by
  have : a.1 = b.1 ∧ a.2 = b.2 := by simpa using h
  exact Prod.ext this.1 this.2
/-- the dict of the roads seen -/
structure SeenT (l : List Ed) (kvs : List (List Key × V)) : Prop where
  k : ∀ e, (valV kvs (kE e)).isSome = true ↔ e ∈ l
  le : kvs.length ≤ l.length
  nd : l.Nodup → kvs.length = l.length
  dp : ¬ l.Nodup → kvs.length < l.length
theorem SeenT.nil : SeenT [] [] := ⟨fun e => by simp [valV], Nat.le_refl _, fun _ => rfl, fun h => absurd List.nodup_nil h⟩
theorem SeenT.put {l : List Ed} {kvs : List (List Key × V)} (h : SeenT l kvs) (e : Ed) (v : V) : SeenT (l ++ [e]) (putK kvs (kE e) v) := by
  have hk : ∀ g, (valV (putK kvs (kE e) v) (kE g)).isSome = true ↔ g ∈ l ++ [e] := fun g => by
    rw [valV_put]
    by_cases q : g = e
    · subst q
      simp
    · rw [if_neg (fun z => q (kE_inj z)), h.k g]
      simp [q]
  have ln : (l ++ [e]).Nodup ↔ l.Nodup ∧ e ∉ l := by
    rw [List.nodup_append]
    constructor
    · rintro ⟨a, _, c⟩
      exact ⟨a, fun m => c e m e (by simp) rfl⟩
    · rintro ⟨a, b⟩
      exact ⟨a, by simp, fun x hx y hy z => b (by rw [List.mem_singleton.mp hy] at z; rw [← z]; exact hx)⟩
  by_cases m : e ∈ l
  · have len : (putK kvs (kE e) v).length = kvs.length := by
      unfold putK
      rw [if_pos (by rw [valV_any]; exact (h.k e).mpr m), List.length_map]
    have le := h.le
    refine ⟨hk, by rw [len, List.length_append]; omega, fun nd => absurd m (ln.mp nd).2, fun _ => by rw [len, List.length_append]; simp; omega⟩
  · have len : (putK kvs (kE e) v).length = kvs.length + 1 := by
      unfold putK
      rw [if_neg (by rw [valV_any]; exact fun z => m ((h.k e).mp z)), List.length_append]
      rfl
    have le := h.le
    refine ⟨hk, by rw [len, List.length_append]; simp; omega, fun nd => by rw [len, List.length_append, h.nd (ln.mp nd).1]; rfl, fun nd => ?_⟩
    have := h.dp fun z => nd (ln.mpr ⟨z, m⟩)
    rw [len, List.length_append]
    simp
    omega
def KnOdd (H : Hp) (ns : List PySem.Str) (es : List Ed) (t : V) : Prop := (∃ s, Kd H t s ∧ (kb s "list" || kb s "tuple") = false) ∨
  ∃ b xs os, t = .ref b ∧ Sx H b xs ∧ xs.length ≤ 500 ∧ Paired (RdIn H ns es) xs os ∧ (none ∈ os ∨ ∃ bs : List Ed, os = bs.map some ∧ ¬ bs.Nodup)
def KnGood (H : Hp) (ns : List PySem.Str) (es : List Ed) (t : V) (bs : List Ed) : Prop := ∃ b xs, t = .ref b ∧ Sx H b xs ∧ xs.length ≤ 500 ∧ Paired (fun x e => RdIn H ns es x (some e)) xs bs ∧ bs.Nodup
def spKnown (CV : Addr) : Sp := fun vs H Q _ => ∃ (v t : V) (ns : List PySem.Str) (es : List Ed) (hs : List Int), vs = [v, t] ∧ Vy CV H v ns es ∧ Pf ns es hs ∧
  ((KnOdd H ns es t ∧ ∀ H', Ext [] H H' → Q .non H') ∨ ∃ bs, KnGood H ns es t bs ∧ ∀ H' p ys, Ext [] H H' → H p = none → H' p = some (.lst ys) → Paired (TupE H') ys bs → Q (.ref p) H')
theorem rd_mem {H : Hp} {ns : List PySem.Str} {es : List Ed} {t : V} {e : Ed} (h : RdIn H ns es t (some e)) : e ∈ es := by
  cases h with
  | good h m s => exact m
abbrev N_known_begun : List PySem.Str := ["valley", "thing", "found", "road"]
theorem sc_known_begun : FnScope N_known_begun ["valley", "thing"] (defScope (topS 29)) := ⟨rfl, rfl, rfl, by decide +kernel, rfl, by decide +kernel, by decide +kernel⟩
theorem bb_known_begun : BindsBy "known_begun" (topS 29) ["valley", "thing"] := fun _ _ _ _ _ _ us hl => match us, hl with | [_, _], _ => rfl
theorem ok_known (T : Tx P K mg CV CG CB) (D : Df K mg "known_begun" (topS 29)) (c_is_list : Cl P w K mg base CX0 1 "is_list" spIsList) (c_road_in : Cl P w K mg base CX0 2 "road_in" (spRoadIn CV)) : Cl P w K mg base CX0 3 "known_begun" (spKnown CV) := by
  refine D.cl0 sc_known_begun bb_known_begun (fun vs H Q E ⟨x, _, _, _, _, e, _⟩ => by rw [e]; rfl) fun f cdv A outer s H vs Q E hr h => ?_
  have nd := sc_known_begun.nd
  obtain ⟨v, t, ns, es, hs, rfl, vy, pf, cs⟩ := h
  refine ⟨_, (pss_cons (ps_if (pt_not (pt_val (pe_k c_is_list hr pass0 (pa_cons (pv 1) pa_nil)))) (pss_one (ps_ret pe_non)) pss_nil)
  (pss_cons (ps_setLc (i := 2) (own := [("road", 3)]) (g := gName 3) (tt := tYes) rfl nd rfl rfl (sw_true rfl rfl rfl (by decide +kernel)) (pi_seq (pv 1)) (blkOk_by (N := N_known_begun) (sc := defScope (topS 29)) (by decide +kernel)) (fun _ _ _ _ _ => (pg_name (i := 3) nd rfl (.inl rfl))) (fun _ _ _ _ _ => pts_nil) (fun _ _ _ _ _ => (pe_k c_road_in hr pass0 (pa_cons (pv 0) (pa_cons (pv 3) pa_nil)))))
  (pss_cons (ps_if ((pw_or (pt_cmpR (op_inD (hu65 hr)) pe_non (pv 2) rfl) (pw_or1 (pt_cmpR op_ne (pe_callB call_len_dT (by rfl) T.len bi_len (pa_cons (pe_dcT (own := [("road", 3)]) (g := gName 3) (tt := tYes) rfl nd (hu_of hr) (pi_seq (pv 2)) (blkOk_by (N := N_known_begun) (sc := defScope (topS 29)) (by decide +kernel)) (fun _ _ _ _ _ => (pg_name (i := 3) nd rfl (.inl rfl))) (fun _ _ _ _ _ => pts_nil) (fun _ _ _ _ _ => (pv 3)) (fun _ _ _ _ _ => pe_bl)) pa_nil)) (pe_callB call_len_seq (by rfl) T.len bi_len (pa_cons (pv 2) pa_nil)) (nomark _))))).pt (pss_one (ps_ret pe_non)) pss_nil)
  (pss_one (ps_ret (pv 2)))))), ?_⟩
  have two : (∃ s, Kd H t s ∧ (kb s "list" || kb s "tuple") = false ∧ ∀ H', Ext [] H H' → Q .non H') ∨
      ∃ b xs os, t = .ref b ∧ Sx H b xs ∧ xs.length ≤ 500 ∧ Paired (RdIn H ns es) xs os ∧ ((none ∈ os ∧ ∀ H', Ext [] H H' → Q .non H') ∨ ∃ bs : List Ed, os = bs.map some ∧ ((¬ bs.Nodup ∧ ∀ H', Ext [] H H' → Q .non H') ∨
        (bs.Nodup ∧ ∀ H' p ys, Ext [] H H' → H p = none → H' p = some (.lst ys) → Paired (TupE H') ys bs → Q (.ref p) H'))) := by
    rcases cs with ⟨⟨s, h1, h2⟩ | ⟨b, xs, os, e1, h1, h2, h3, h4 | ⟨bs, h4, h5⟩⟩, q⟩ | ⟨bs, ⟨b, xs, e1, h1, h2, h3, h4⟩, q⟩
    · exact .inl ⟨s, h1, h2, q⟩
    · exact .inr ⟨b, xs, os, e1, h1, h2, h3, .inl ⟨h4, q⟩⟩
    · exact .inr ⟨b, xs, os, e1, h1, h2, h3, .inr ⟨bs, h4, .inl ⟨h5, q⟩⟩⟩
    · exact .inr ⟨b, xs, bs.map some, e1, h1, h2, pair_mapL (f := some) (fun a c h => h) h3, .inr ⟨bs, rfl, .inr ⟨h4, q⟩⟩⟩
  rcases two with ⟨s, hk, n, q⟩ | ⟨b, xs, os, rfl, hb, lx, pr, rest⟩
  · refine ⟨_, rfl, _, _, rfl, hk, fun H1 e1 => ?_⟩
    rw [n]
    exact ⟨_, rfl, q H1 e1⟩
  · obtain ⟨kd, hk, kb1, _⟩ := hb.kd
    refine ⟨_, rfl, _, _, rfl, hk, fun H1 e1 => ?_⟩
    rw [kb1]
    have hb1 := hb.ext e1
    have lo := pr.length
    refine ⟨_, rfl, _, rfl, b, _, rfl, hb1.sq, fun J Gz gz0 gzE wk D2 hD2 => ?_⟩
    refine lc_run wk (fun H' e => gzE [] H' (by simp) e) hD2 (fun i acc G => Paired (RdV G) acc (os.take i)) .nil (fun k u Ga Gb lt2 I2 yy => ?_) fun acc H2 e2 hacc rr => ?_
    · obtain ⟨rfl, hyy⟩ := yy
      obtain ⟨e0, acc, hacc, la, pa⟩ := I2
      have ho : os[k]? = some os[k] := List.getElem?_eq_getElem (by omega)
      generalize os[k] = o at ho
      refine ⟨rfl, _, rfl, _, rfl, _, u, ns, es, o, rfl, vy.ext0 (e1.trans e0), pf.acy, pf.mem, (pair_at pr hyy ho).ext (e1.trans e0), fun H5 z e5 hz => ?_⟩
      refine lcp hD2 (e0.trans e5) (e5.at0 hacc) la (by omega) ?_
      show Paired (RdV _) (acc ++ [z]) (os.take (k + 1))
      rw [take_next ho]
      exact pair_snoc (pair_map pa fun _ _ h => (h.ext e5).updL (e5.at0 hacc)) (hz.updL (e5.at0 hacc))
    · have rr : Paired (RdV H2) acc (os.take xs.length) := rr
      rw [List.take_of_length_le (by omega)] at rr
      have e12 : Ext [] H H2 := e1.trans e2
      have la := rr.length
      have sok : ∀ e, some e ∈ os → PyData.strOk e.1 = true ∧ PyData.strOk e.2 = true := fun e he => by
        obtain ⟨i, hi⟩ := List.mem_iff_getElem?.mp he
        obtain ⟨li, _⟩ := List.getElem?_eq_some_iff.mp hi
        have hx : xs[i]? = some xs[i] := List.getElem?_eq_getElem (by omega)
        have m := pf.mem e (rd_mem (pair_at pr hx hi))
        exact ⟨allN_ok _ (pf.nm _ m.1), allN_ok _ (pf.nm _ m.2)⟩
      obtain ⟨y1, y2⟩ := lay_os sok
      refine ⟨_, rfl, .none, os.map dOf, .non, .lst (.inl (.inl hacc)) (dpAll_rd rr), rfl, by
        refine Bool.and_eq_true_iff.mpr ⟨by rw [PyData.canLay0]; exact y1, decide_eq_true ?_⟩
        rw [PyData.depth]
        omega, ?_⟩
      rw [any_none]
      refine ⟨_, rfl, ?_⟩
      rcases rest with ⟨hn, q⟩ | ⟨bs, rfl, rest⟩
      · exact itB (List.any_eq_true.mpr ⟨none, hn, rfl⟩) (q H2 e12)
      · refine itN (List.any_eq_false.mpr fun z hz => by
          obtain ⟨e, _, rfl⟩ := List.mem_map.mp hz
          simp) ?_
        rw [List.length_map] at la lo
        have rr2 := pair_mapR (f := some) (G := TupE H2) (fun a c h => h) rr
        refine ⟨_, rfl, D2, acc, rfl, Sx.sq (.inl hacc), fun J Gz gz0 gzE wk D3 hD3 => ?_⟩
        refine dt_run wk (fun H' e => gzE [] H' (by simp) e) hD3 (fun i kvs _ => SeenT (bs.take i) kvs) .nil (fun k u Ga Gb lt2 I2 yy => ?_) fun kvs H3 e3 hk3 rk => ?_
        · obtain ⟨rfl, hyy⟩ := yy
          obtain ⟨e0, kv2, hkv, lk, sn⟩ := I2
          have ho : bs[k]? = some bs[k] := List.getElem?_eq_getElem (by omega)
          generalize bs[k] = o at ho
          obtain ⟨c, rfl, hc⟩ := (pair_at rr2 hyy ho).ext0 e0
          refine ⟨rfl, _, rfl, dtp hD3 e0 hkv lk (by omega) (k := kE o) rfl hc ?_⟩
          show SeenT (bs.take (k + 1)) _
          rw [take_next ho]
          exact sn.put o _
        · have rk : SeenT (bs.take acc.length) kvs := rk
          rw [List.take_of_length_le (by omega)] at rk
          have e123 : Ext [] H H3 := e12.trans e3
          refine ⟨D3, kvs, rfl, hk3, _, rfl, D2, acc, rfl, .inl (.inl (.inl (e3.at0 hacc))), rfl, _, rfl, ?_⟩
          rcases rest with ⟨nn, q⟩ | ⟨nn, q⟩
          · refine itB ?_ (q H3 e123)
            have := rk.dp nn
            simp only [Bool.not_eq_true', decide_eq_false_iff_not]
            exact fun z => by have z := V.int.inj z; omega
          · refine itN ?_ ⟨_, rfl, q H3 D2 acc e123 (e1.free0 hD2) (e3.at0 hacc) (pair_map rr2 fun _ _ h => h.ext0 e3)⟩
            have := rk.nd nn
            simp only [Bool.not_eq_false', decide_eq_true_eq]
            exact congrArg V.int (by omega)
end
end K70

/-! K7G: what is begun, checked. -/
namespace K70
open PySem PySem.Spec PyProof.Rows L2 LamX
section
variable {P : Program} {w : World} {K : PySem.W.Frag} {mg : Str → Option Value} {base : Heap} {CV CG CB : Addr}
theorem Kd.isN {H : Hp} {x : V} {s : String} {Q : VK} {CC : Addr} (C : ClsI K CC) (k : Kd H x s) (q : Q (.bl false) H) : rIsi K [x, .ref CC] H Q := ⟨x, .ref CC, _, _, _, rfl, .own CC, k.ty, C.no s k.in7, q⟩
theorem ins_isi {H : Hp} {x dx : Addr} {fs : List (PySem.Str × V)} {Q : VK} {CC : Addr} (C : ClsI K CC) (h : H x = some (.ins CC dx fs)) (q : Q (.bl true) H) : rIsi K [.ref x, .ref CC] H Q := ⟨.ref x, .ref CC, _, _, _, rfl, .own CC, .base (.ins h C.cl C.ha C.hn C.ht C.hm), C.self, q⟩
theorem isi_c (b : Bool) {σ : L2.St} {H : Hp} {i : Nat} {x : V} {Q : VK} {CC : Addr} (h : σ[i]? = some (some x)) (r : ∀ Q : VK, Q (.bl b) H → rIsi K [x, .ref CC] H Q) (q : Q (.bl b) H) : tCB (rIsi K) (tCons (tVar i) (tCons (tC (.ref CC)) tNil)) σ H Q := ⟨x, h, r _ q⟩
/-- what is refused: e, its field f being v -/
def Refd (C : Addr) (f : PySem.Str) (v : V) (H : Hp) (E : XK) : Prop := ∀ H' d, Ext [] H H' → H d = none → H' d = some (.xd [(f, v)]) → E (.ref C) (some d) H'
def spCheck (CV CG : Addr) : Sp := fun vs H Q E => ∃ v, vs = [v] ∧ ((∃ x dx fs, v = .ref x ∧ H x = some (.ins CV dx fs) ∧ Q .non H) ∨ ∃ s, Kd H v s ∧ Refd CG "thing" v H E)
abbrev N_check_valley : List PySem.Str := ["thing"]
theorem sc_check_valley : FnScope N_check_valley ["thing"] (defScope (topS 21)) := ⟨rfl, rfl, rfl, by decide +kernel, rfl, by decide +kernel, by decide +kernel⟩
theorem bb_check_valley : BindsBy "check_valley" (topS 21) ["thing"] := fun _ _ _ _ _ _ us hl => match us, hl with | [_], _ => rfl
theorem ok_check (T : Tx P K mg CV CG CB) (D : Df K mg "check_valley" (topS 21)) : Cl P w K mg base (L2.CX P w) 3 "check_valley" (spCheck CV CG) := by
  refine D.clX sc_check_valley bb_check_valley (fun vs H Q E ⟨x, e, _⟩ => by rw [e]; rfl) fun f cdv A outer s H vs Q E hr h => ?_
  have nd := sc_check_valley.nd
  obtain ⟨v, rfl, cs⟩ := h
  refine ⟨_, (pss_one (ps_if (pt_not (pt_val (pe_callB call_isi (by rfl) T.isinstance bi_isinstance (pa_cons (pv 0) (pa_cons (pe_glob (v := .ref CV) (by rfl) T.gValley rfl) pa_nil))))) (pss_one (ps_raise rfl (takes_of rfl rfl rfl rfl) (pmk_sup T.sG (hr.mono (by decide)) (pv 0) T.gBadValley))) pss_nil)), ?_⟩
  rcases cs with ⟨x, dx, fs, rfl, hx, q⟩ | ⟨s, hk, q⟩
  · exact isi_c true rfl (fun _ q => ins_isi T.iV hx q) ⟨_, rfl, q⟩
  · exact isi_c false rfl (fun _ q => hk.isN T.iV q) ⟨_, rfl, _, rfl, fun d hd => q _ d (ext_new hd) hd upd_same⟩
/-- how a valley and what is begun stand -/
def BgCs (CV CG : Addr) (H : Hp) (v t : V) (good : List PySem.Str → List Ed → List Ed → Prop) (odd : Prop) (E : XK) : Prop :=
  (∃ ns es hs bs, Vy CV H v ns es ∧ Pf ns es hs ∧ KnGood H ns es t bs ∧ good ns es bs) ∨ (∃ ns es hs, Vy CV H v ns es ∧ Pf ns es hs ∧ KnOdd H ns es t ∧ odd) ∨ ∃ s, Kd H v s ∧ Refd CG "thing" v H E
def spIsBegun (CV CG : Addr) : Sp := fun vs H Q E => ∃ v t, vs = [v, t] ∧ BgCs CV CG H v t (fun _ _ _ => ∀ H', Ext [] H H' → Q (.bl true) H') (∀ H', Ext [] H H' → Q (.bl false) H') E
theorem Vy.ins {H : Hp} {v : V} {ns : List PySem.Str} {es : List Ed} (h : Vy CV H v ns es) : ∃ x dx fs, v = .ref x ∧ H x = some (.ins CV dx fs) := by
  obtain ⟨x, dx, fs, _, _, _, _, _, _, rfl, y⟩ := h
  exact ⟨x, dx, fs, rfl, y.o⟩
abbrev N_is_begun : List PySem.Str := ["valley", "thing"]
theorem sc_is_begun : FnScope N_is_begun ["valley", "thing"] (defScope (topS 30)) := ⟨rfl, rfl, rfl, by decide +kernel, rfl, by decide +kernel, by decide +kernel⟩
theorem bb_is_begun : BindsBy "is_begun" (topS 30) ["valley", "thing"] := fun _ _ _ _ _ _ us hl => match us, hl with | [_, _], _ => rfl
theorem ok_is_begun (T : Tx P K mg CV CG CB) (D : Df K mg "is_begun" (topS 30)) (c_check_valley : Cl P w K mg base (L2.CX P w) 3 "check_valley" (spCheck CV CG)) (c_known_begun : Cl P w K mg base CX0 3 "known_begun" (spKnown CV)) :
    Cl P w K mg base (L2.CX P w) 4 "is_begun" (spIsBegun CV CG) ∧ ClS P w K mg base (L2.CX P w) 4 "is_begun" "valley" "thing" (spIsBegun CV CG) := by
  refine D.clS sc_is_begun bb_is_begun (fun _ _ _ _ _ _ _ _ => rfl) (fun vs H Q E ⟨x, _, e, _⟩ => by rw [e]; rfl) fun f cdv A outer s H vs Q E hr h => ?_
  have nd := sc_is_begun.nd
  obtain ⟨v, t, rfl, cs⟩ := h
  refine ⟨_, (pss_cons (ps_expr (pe_k c_check_valley hr (passes_call (takes_of rfl rfl rfl rfl) fun _ _ _ _ h => h) (pa_cons (pv 0) pa_nil)))
  (pss_one (ps_ret (pe_cmpR op_notN (pe_k c_known_begun hr pass0 (pa_cons (pv 0) (pa_cons (pv 1) pa_nil))) pe_non (nomark _))))), ?_⟩
  rcases cs with ⟨ns, es, hs, bs, vy, pf, kg, q⟩ | ⟨ns, es, hs, vy, pf, ko, q⟩ | ⟨s, hk, q⟩
  · obtain ⟨x, dx, fs, rfl, hx⟩ := vy.ins
    exact ⟨_, rfl, _, rfl, .inl ⟨x, dx, fs, rfl, hx, _, rfl, _, rfl, _, t, ns, es, hs, rfl, vy, pf, .inr ⟨bs, kg, fun H' p ys e _ _ _ => ⟨rfl, q H' e⟩⟩⟩⟩
  · obtain ⟨x, dx, fs, rfl, hx⟩ := vy.ins
    exact ⟨_, rfl, _, rfl, .inl ⟨x, dx, fs, rfl, hx, _, rfl, _, rfl, _, t, ns, es, hs, rfl, vy, pf, .inl ⟨ko, fun H' e => ⟨rfl, q H' e⟩⟩⟩⟩
  · exact ⟨_, rfl, v, rfl, .inr ⟨s, hk, q⟩⟩
def spChecked (CV CG CB : Addr) : Sp := fun vs H Q E => ∃ v t, vs = [v, t] ∧ BgCs CV CG H v t (fun _ _ bs => ∀ H' p ys, Ext [] H H' → H p = none → H' p = some (.lst ys) → Paired (TupE H') ys bs → Q (.ref p) H') (Refd CB "begun" t H E) E
abbrev N_checked_begun : List PySem.Str := ["valley", "begun", "found"]
theorem sc_checked_begun : FnScope N_checked_begun ["valley", "begun"] (defScope (topS 31)) := ⟨rfl, rfl, rfl, by decide +kernel, rfl, by decide +kernel, by decide +kernel⟩
theorem bb_checked_begun : BindsBy "checked_begun" (topS 31) ["valley", "begun"] := fun _ _ _ _ _ _ us hl => match us, hl with | [_, _], _ => rfl
theorem ok_checked (T : Tx P K mg CV CG CB) (D : Df K mg "checked_begun" (topS 31)) (c_check_valley : Cl P w K mg base (L2.CX P w) 3 "check_valley" (spCheck CV CG)) (c_known_begun : Cl P w K mg base CX0 3 "known_begun" (spKnown CV)) : Cl P w K mg base (L2.CX P w) 4 "checked_begun" (spChecked CV CG CB) := by
  refine D.clX sc_checked_begun bb_checked_begun (fun vs H Q E ⟨x, _, e, _⟩ => by rw [e]; rfl) fun f cdv A outer s H vs Q E hr h => ?_
  have nd := sc_checked_begun.nd
  obtain ⟨v, t, rfl, cs⟩ := h
  refine ⟨_, (pss_cons (ps_expr (pe_k c_check_valley hr (passes_call (takes_of rfl rfl rfl rfl) fun _ _ _ _ h => h) (pa_cons (pv 0) pa_nil)))
  (pss_cons (ps_set (i := 2) nd rfl (.inl rfl) (pe_k c_known_begun hr pass0 (pa_cons (pv 0) (pa_cons (pv 1) pa_nil))))
  (pss_cons (ps_if (pt_cmpR op_isN (pv 2) pe_non (nomark _)) (pss_one (ps_raise rfl (takes_of rfl rfl rfl rfl) (pmk_sup T.sB (hr.mono (by decide)) (pv 1) T.gBadBegun))) pss_nil)
  (pss_one (ps_ret (pv 2)))))), ?_⟩
  rcases cs with ⟨ns, es, hs, bs, vy, pf, kg, q⟩ | ⟨ns, es, hs, vy, pf, ko, q⟩ | ⟨s, hk, q⟩
  · obtain ⟨x, dx, fs, rfl, hx⟩ := vy.ins
    exact ⟨_, rfl, _, rfl, .inl ⟨x, dx, fs, rfl, hx, _, rfl, _, rfl, _, t, ns, es, hs, rfl, vy, pf, .inr ⟨bs, kg, fun H' p ys e n g pp => ⟨_, rfl, rfl, _, rfl, _, rfl, q H' p ys e n g pp⟩⟩⟩⟩
  · obtain ⟨x, dx, fs, rfl, hx⟩ := vy.ins
    exact ⟨_, rfl, _, rfl, .inl ⟨x, dx, fs, rfl, hx, _, rfl, _, rfl, _, t, ns, es, hs, rfl, vy, pf, .inl ⟨ko, fun H' e => ⟨_, rfl, rfl, _, rfl, _, rfl, fun d hd => q _ d (e.new hd) (e.free0 hd) upd_same⟩⟩⟩⟩
  · exact ⟨_, rfl, v, rfl, .inr ⟨s, hk, q⟩⟩
end
end K70

/-! K7H: the parts of what is begun. -/
namespace K70
open PySem PySem.Spec PyProof.Rows L2 LamX
/-! ### plain -/
abbrev BSt := (PySem.Str → List PySem.Str) × (Ed → Option (List PySem.Str))
def bPart (ns : List PySem.Str) (st : BSt) (e : Ed) : List PySem.Str := ns.filter fun z => decide (z ∈ st.1 e.1 ++ st.1 e.2)
def bStep (ns : List PySem.Str) (st : BSt) (e : Ed) : BSt := (fun z => if z ∈ bPart ns st e then bPart ns st e else st.1 z, fun g => if g = e then some (bPart ns st e) else st.2 g)
def bInit : BSt := (fun z => [z], fun _ => none)
def bRun (ns : List PySem.Str) (bs : List Ed) : BSt := bs.foldl (bStep ns) bInit
def bParts (ns : List PySem.Str) (es bs : List Ed) : List (Ed × List PySem.Str) := es.filterMap fun e => ((bRun ns bs).2 e).map fun p => (e, p)
def bCnt (ns : List PySem.Str) (es bs : List Ed) (z : PySem.Str) : Nat := (((bParts ns es bs).map Prod.snd).flatten).count z
theorem bRun_snoc {ns : List PySem.Str} {l : List Ed} {e : Ed} : bRun ns (l ++ [e]) = bStep ns (bRun ns l) e := by
  unfold bRun
  rw [List.foldl_append]
  rfl
/-- parts are of the houses, and small -/
structure BOk (ns : List PySem.Str) (st : BSt) : Prop where
  l1 : ∀ z, (st.1 z).length ≤ 60
  s2 : ∀ g p, st.2 g = some p → p.length ≤ 60 ∧ ∀ z ∈ p, z ∈ ns
theorem bPart_ok {ns : List PySem.Str} {st : BSt} {e : Ed} (h : ns.length ≤ 60) : (bPart ns st e).length ≤ 60 ∧ ∀ z ∈ bPart ns st e, z ∈ ns := ⟨Nat.le_trans (List.length_filter_le ..) h, fun z hz => (List.mem_filter.mp hz).1⟩
theorem bRun_ok {ns : List PySem.Str} (h : ns.length ≤ 60) : ∀ bs : List Ed, BOk ns (bRun ns bs) := by
  have key : ∀ (bs : List Ed) (st : BSt), BOk ns st → BOk ns (bs.foldl (bStep ns) st) := fun bs => by
    induction bs with
    | nil => exact fun st k => k
    | cons e bs ih =>
      refine fun st k => ih _ ⟨fun z => ?_, fun g p hp => ?_⟩
      · show (if z ∈ bPart ns st e then bPart ns st e else st.1 z).length ≤ 60
        split
        · exact (bPart_ok h).1
        · exact k.l1 z
      · have hp : (if g = e then some (bPart ns st e) else st.2 g) = some p := hp
        by_cases q : g = e
        · rw [if_pos q] at hp
          cases hp
          exact bPart_ok h
        · rw [if_neg q] at hp
          exact k.s2 g p hp
  exact fun bs => key bs _ ⟨fun z => by show 1 ≤ 60; decide, fun g p hp => by cases hp⟩
/-! ### as it lies in the heap -/
/-- lists of texts by name -/
def NowAt (G : Hp) (ns : List PySem.Str) (nf : PySem.Str → Addr) (now : PySem.Str → List PySem.Str) : Prop := ∀ z ∈ ns, G (nf z) = some (.lst ((now z).map V.str))
theorem NowAt.ext {G G' : Hp} {ns : List PySem.Str} {nf : PySem.Str → Addr} {now : PySem.Str → List PySem.Str} (h : NowAt G ns nf now) (e : Ext [] G G') : NowAt G' ns nf now := fun z hz => e.at0 (h z hz)
theorem NowAt.upd {G : Hp} {ns : List PySem.Str} {nf : PySem.Str → Addr} {now : PySem.Str → List PySem.Str} {d : Addr} {o o' : HO} (h : NowAt G ns nf now) (hd : G d = some o) (n : ∀ l, o ≠ .lst l) : NowAt (L2.upd G d o') ns nf now := fun z hz => by
  rw [upd_ne (fun q => by have y := h z hz; rw [q, hd] at y; exact n _ (Option.some.inj y))]
  exact h z hz
def FndAt (G : Hp) (fkv : List (List Key × V)) (fnd : Ed → Option (List PySem.Str)) : Prop := ∀ g : Ed, match fnd g with
  | none => valV fkv (kE g) = none
  | some p => ∃ b, valV fkv (kE g) = some (.ref b) ∧ G b = some (.lst (p.map V.str))
theorem FndAt.none {G : Hp} {fkv : List (List Key × V)} {fnd : Ed → Option (List PySem.Str)} {g : Ed} (h : FndAt G fkv fnd) (e : fnd g = none) : valV fkv (kE g) = none := by
  have := h g
  rw [e] at this
  exact this
theorem FndAt.some {G : Hp} {fkv : List (List Key × V)} {fnd : Ed → Option (List PySem.Str)} {g : Ed} {p : List PySem.Str} (h : FndAt G fkv fnd) (e : fnd g = some p) : ∃ b, valV fkv (kE g) = some (.ref b) ∧ G b = some (.lst (p.map V.str)) := by
  have := h g
  rw [e] at this
  exact this
theorem FndAt.map {G G' : Hp} {fkv : List (List Key × V)} {fnd : Ed → Option (List PySem.Str)} (h : FndAt G fkv fnd) (k : ∀ b l, G b = Option.some (.lst l) → G' b = Option.some (.lst l)) : FndAt G' fkv fnd := fun g => by
  cases q : fnd g with
  | none => exact h.none q
  | some p =>
    obtain ⟨b, h1, h2⟩ := h.some q
    exact ⟨b, h1, k _ _ h2⟩
theorem FndAt.ext {G G' : Hp} {fkv : List (List Key × V)} {fnd : Ed → Option (List PySem.Str)} (h : FndAt G fkv fnd) (e : Ext [] G G') : FndAt G' fkv fnd := h.map fun _ _ h => e.at0 h
theorem FndAt.upd {G : Hp} {fkv : List (List Key × V)} {fnd : Ed → Option (List PySem.Str)} {d : Addr} {o o' : HO} (h : FndAt G fkv fnd) (hd : G d = Option.some o) (n : ∀ l, o ≠ .lst l) : FndAt (L2.upd G d o') fkv fnd := h.map fun b l hb => by
  rw [upd_ne (fun q => by rw [q, hd] at hb; exact n _ (Option.some.inj hb))]
  exact hb
theorem FndAt.put {G : Hp} {fkv : List (List Key × V)} {fnd : Ed → Option (List PySem.Str)} {e : Ed} {b : Addr} {p : List PySem.Str} (h : FndAt G fkv fnd) (hb : G b = Option.some (.lst (p.map V.str))) : FndAt G (putK fkv (kE e) (.ref b)) (fun g => if g = e then Option.some p else fnd g) := fun g => by
  by_cases q : g = e
  · subst q
    simp only [if_true]
    exact ⟨b, by rw [valV_put, if_pos rfl], hb⟩
  · simp only [if_neg q]
    cases z : fnd g with
    | none =>
      show valV _ _ = Option.none
      rw [valV_put, if_neg (fun y => q (kE_inj y))]
      exact h.none z
    | some p' =>
      obtain ⟨c, h1, h2⟩ := h.some z
      exact ⟨c, by rw [valV_put, if_neg (fun y => q (kE_inj y))]; exact h1, h2⟩
/-- a dict of parts by roads -/
def PtAt (H0 G : Hp) (kv : List Key × V) (p : Ed × List PySem.Str) : Prop := kv.1 = kE p.1 ∧ ∃ b, kv.2 = .ref b ∧ G b = some (.lst (p.2.map V.str)) ∧ H0 b = none
theorem PtAt.mono {H0 G G' : Hp} {kv : List Key × V} {p : Ed × List PySem.Str} (h : PtAt H0 G kv p) (k : ∀ b l, G b = some (.lst l) → G' b = some (.lst l)) : PtAt H0 G' kv p := by
  obtain ⟨e, b, h1, h2, h3⟩ := h
  exact ⟨e, b, h1, k _ _ h2, h3⟩
theorem pts_none {H0 G : Hp} {e : Ed} : ∀ {kvs : List (List Key × V)} {ps : List (Ed × List PySem.Str)}, Paired (PtAt H0 G) kvs ps → (∀ p ∈ ps, p.1 ≠ e) → valV kvs (kE e) = none
  | _, _, .nil, _ => rfl
  | (k, v) :: kvs, p :: ps, .cons r t, h => by
    rw [valV_neg (fun z => h p (by simp) (kE_inj (r.1.symm.trans z)))]
    exact pts_none t fun q hq => h q (List.mem_cons_of_mem _ hq)
theorem putK_new {κ : Type} [DecidableEq κ] {kvs : List (κ × V)} {k : κ} {v : V} (h : valV kvs k = none) : putK kvs k v = kvs ++ [(k, v)] := by
  unfold putK
  rw [if_neg (by rw [valV_any, h]; simp)]
theorem call_list_ofK {X : Cx} {Kq : PySem.W.Frag} (hK : X.K = Kq) : CallR X (.type "list") (fun xs H Q => ∃ p ys, xs = [.ref p] ∧ (SqL Kq H p ys ∨ SqT Kq H p ys) ∧ ∀ l, H l = none → Q (.ref l) (upd H l (.lst ys))) := by
  subst hK
  exact call_list_of
theorem strs_map {l : List PySem.Str} {p : PySem.Str → Bool} : l.filterMap (fun z => if p z = true then some (V.str z) else none) = (l.filter p).map V.str := by
  induction l with
  | nil => rfl
  | cons z l ih =>
    by_cases h : p z = true
    · simp [h, ih]
    · simp [h, ih]
section
variable {P : Program} {w : World} {K : PySem.W.Frag} {mg : Str → Option Value} {base : Heap} {CV CG CB : Addr}
def spParts (CV : Addr) : Sp := fun vs H Q _ => ∃ (v : V) (kn : Addr) (ys : List V) (ns : List PySem.Str) (es bs : List Ed) (hs : List Int), vs = [v, .ref kn] ∧ Vy CV H v ns es ∧ Pf ns es hs ∧ H kn = some (.lst ys) ∧ Paired (TupE H) ys bs ∧ (∀ e ∈ bs, e ∈ es) ∧ bs.length ≤ 500 ∧
  ∀ H' d kvs, Ext [] H H' → H d = none → H' d = some (.dT kvs) → Paired (PtAt H H') kvs (bParts ns es bs) → Q (.ref d) H'
abbrev N_begun_parts : List PySem.Str := ["valley", "known", "now", "found", "name", "one", "other", "both", "part", "road"]
theorem sc_begun_parts : FnScope N_begun_parts ["valley", "known"] (defScope (topS 32)) := ⟨rfl, rfl, rfl, by decide +kernel, rfl, by decide +kernel, by decide +kernel⟩
theorem bb_begun_parts : BindsBy "begun_parts" (topS 32) ["valley", "known"] := fun _ _ _ _ _ _ us hl => match us, hl with | [_, _], _ => rfl
theorem ok_parts (T : Tx P K mg CV CG CB) (D : Df K mg "begun_parts" (topS 32)) : Cl P w K mg base CX0 1 "begun_parts" (spParts CV) := by
  refine D.cl0 sc_begun_parts bb_begun_parts (fun vs H Q E ⟨x, _, _, _, _, _, _, e, _⟩ => by rw [e]; rfl) fun f cdv A outer s H vs Q E hr h => ?_
  have nd := sc_begun_parts.nd
  obtain ⟨v, kn, ys, ns, es, bs, hs, rfl, vy, pf, hkn, pk, sub, lb, q⟩ := h
  refine ⟨_, (pss_cons (ps_asg (pe_tup (pa_cons (pe_dc (own := [("name", 4)]) (g := gName 4) (tt := tYes) rfl nd (pi_seq (pe_fld (pv 0) rfl)) (blkOk_by (N := N_begun_parts) (sc := defScope (topS 32)) (by decide +kernel)) (fun _ _ _ _ _ => (pg_name (i := 4) nd rfl (.inl rfl))) (fun _ _ _ _ _ => pts_nil) (fun _ _ _ _ _ => (pv 4)) (fun _ _ _ _ _ => (pe_lst (pa_cons (pv 4) pa_nil)))) (pa_cons pe_dnewT pa_nil))) (pg_tup rfl (pgs_cons (pg_name (i := 2) nd rfl (.inl rfl)) (pgs_cons (pg_name (i := 3) nd rfl (.inr rfl)) pgs_nil))))
  (pss_cons (ps_for PassesOwn.never rfl (pi_seq (pv 1)) (pg_tup rfl (pgs_cons (pg_name (i := 5) nd rfl (.inl rfl)) (pgs_cons (pg_name (i := 6) nd rfl (.inl rfl)) pgs_nil)))
    (pss_cons (ps_set (i := 7) nd rfl (.inr rfl) (pe_dc (own := [("name", 4)]) (g := gName 4) (tt := tYes) rfl nd (pi_seq (pe_op op_cat (pe_dget (hu_of hr) (pv 2) (pv 5) (fun _ _ => rfl)) (pe_dget (hu_of hr) (pv 2) (pv 6) (fun _ _ => rfl)))) (blkOk_by (N := N_begun_parts) (sc := defScope (topS 32)) (by decide +kernel)) (fun _ _ _ _ _ => (pg_name (i := 4) nd rfl (.inl rfl))) (fun _ _ _ _ _ => pts_nil) (fun _ _ _ _ _ => (pv 4)) (fun _ _ _ _ _ => pe_bl)))
  (pss_cons (ps_setLc (i := 8) (own := [("name", 4)]) (g := gName 4) rfl nd rfl rfl (sw_true rfl rfl rfl (by decide +kernel)) (pi_seq (pe_fld (pv 0) rfl)) (blkOk_by (N := N_begun_parts) (sc := defScope (topS 32)) (by decide +kernel)) (fun _ _ _ _ _ => (pg_name (i := 4) nd rfl (.inl rfl))) (fun _ _ _ _ _ => (pts_one (pt_cmp (pc_din (hu_of hr) (pv 4) (pv 7))))) (fun _ _ _ _ _ => (pv 4)))
  (pss_cons (ps_dput (hu_of hr) (pv 3) (pe_tup (pa_cons (pv 5) (pa_cons (pv 6) pa_nil))) (pv 8) rfl)
  (pss_one (ps_for PassesOwn.never rfl (pi_seq (pv 8)) (pg_name (i := 4) nd rfl (.inl rfl))
    (pss_one (ps_dput (hu_of hr) (pv 2) (pv 4) (pv 8) rfl))))))))
  (pss_one (ps_ret (pe_dcT (own := [("road", 9)]) (g := gName 9) rfl nd (hu_of hr) (pi_seq (pe_fld (pv 0) rfl)) (blkOk_by (N := N_begun_parts) (sc := defScope (topS 32)) (by decide +kernel)) (fun _ _ _ _ _ => (pg_name (i := 9) nd rfl (.inl rfl))) (fun _ _ _ _ _ => (pts_one (pt_cmp (pc_din (hu_of hr) (pv 9) (pv 3))))) (fun _ _ _ _ _ => (pv 9)) (fun _ _ _ _ _ => (pe_callTy (call_list_ofK (Kq := K) rfl) (by rfl) T.list bi_list (pa_cons (pe_dget (hu_of hr) (pv 3) (pv 9) (fun _ _ => rfl)) pa_nil)))))))), ?_⟩
  obtain ⟨x, dx, fs, nb, rk, rd, pl, ts, pkv, rfl, y⟩ := vy
  have hc : Cls K CV := T.iV.cl
  have lns : (ns.map V.str).length = ns.length := List.length_map ..
  have pn2 := pf.n2
  refine ⟨_, rfl, x, CV, dx, fs, _, rfl, y.o, hc, T.nV _ (by simp), y.f1, nb, _, rfl, Sx.sq (.inr y.n), fun J Gq g0 gE wk nw hnw => dc_run wk (fun H' e => gE [] H' (by simp) e) hnw (fun i kvs G => ∃ nf, kvs = mk (ns.take i) (fun z => .ref (nf z)) ∧ NowAt G (ns.take i) nf (fun z => [z])) ⟨fun _ => nw, rfl, fun z hz => by simp at hz⟩ (fun i u Ga Gb lt I yy => ?_) fun kvs G1 e1 hk1 r => ?_⟩
  · obtain ⟨rfl, hy⟩ := yy
    obtain ⟨z, rfl, hz, mz⟩ := at_str hy
    refine ⟨rfl, _, rfl, _, rfl, by show 1 ≤ sizeLine; decide, fun p hp => ?_⟩
    obtain ⟨e0, acc, hacc, la, nf, rfl, nok⟩ := I
    have pD : p ≠ nw := fun q => by rw [q, hacc] at hp; cases hp
    refine dcp hnw (e0.trans (ext_new hp)) ((ext_new (L := []) hp).at0 hacc) la (by omega) (k := .inr z) rfl ⟨fun y => if y = z then p else nf y, ?_, fun y hy => ?_⟩
    · have nz := nd_take pf.nd hz
      rw [mk_congr (h := fun y => .ref (if y = z then p else nf y)) (fun y hy => by rw [if_neg (fun e => nz (by rw [← e]; exact hy))]), take_next hz]
      have := mk_snoc (g := fun y => V.ref (if y = z then p else nf y)) nz
      rw [← this]
      simp
    · show _ = some (HO.lst ([V.str y]))
      by_cases e : y = z
      · subst e
        simp only [if_true]
        rw [upd_ne pD]
        exact upd_same
      · simp only [if_neg e]
        rw [take_next hz] at hy
        have hy : y ∈ ns.take i := (List.mem_append.mp hy).resolve_right fun q => e (List.mem_singleton.mp q)
        have h2 := nok y hy
        rw [upd_ne (fun q => by rw [q, hacc] at h2; cases h2), upd_ne (fun q => by rw [q, hp] at h2; cases h2)]
        exact h2
  obtain ⟨nf0, rfl, nok0⟩ := r
  rw [lns, List.take_of_length_le (Nat.le_refl _)] at hk1 nok0
  intro fd hfd
  refine ⟨by show 2 ≤ sizeLine; decide, fun p0 hp0 => ⟨p0, _, rfl, .inl (.inl upd_same), rfl, _, _, rfl, _, _, rfl, rfl, ?_⟩⟩
  have eF : Ext [] G1 (upd G1 fd (.dT [])) := ext_new hfd
  have eP0 : Ext [] G1 (upd (upd G1 fd (.dT [])) p0 (.tup [.ref nw, .ref fd])) := eF.new hp0
  have nfp : fd ≠ p0 := ne_of_none upd_same hp0
  have e2 : Ext [] H (upd (upd G1 fd (.dT [])) p0 (.tup [.ref nw, .ref fd])) := e1.trans eP0
  have hk2 := eP0.at0 hk1
  have hf2 : (upd (upd G1 fd (.dT [])) p0 (.tup [.ref nw, .ref fd])) fd = some (.dT []) := by rw [upd_ne nfp]; exact upd_same
  have nok2 := nok0.ext eP0
  have hnwH : H nw = none := hnw
  have hfdH : H fd = none := e1.free0 hfd
  revert e2 hk2 hf2 nok2
  clear eP0
  generalize upd (upd G1 fd (.dT [])) p0 (.tup [.ref nw, .ref fd]) = G2
  intro e2 hk2 hf2 nok2
  have nwfd : nw ≠ fd := fun q => by rw [q, hf2] at hk2; cases hk2
  have lyb := pk.length
  refine ⟨_, rfl, kn, ys, rfl, Sx.sq (.inl (e2.at0 hkn)), fun J Gq g0 gE wk => ?_⟩
  refine for_it wk (fun i τ G => ∃ (v4 v5 v6 v7 v8 v9 : Option V) (nf : PySem.Str → Addr) (fkv : List (List Key × V)), τ = [some (.ref x), some (.ref kn), some (.ref nw), some (.ref fd), v4, v5, v6, v7, v8, v9] ∧ Ext [nw, fd] G2 G ∧ Ext [] H G ∧ G nw = some (.dK (mk ns fun z => .ref (nf z))) ∧ NowAt G ns nf (bRun ns (bs.take i)).1 ∧ G fd = some (.dT fkv) ∧ fkv.length ≤ i ∧ FndAt G fkv (bRun ns (bs.take i)).2)
    ⟨none, none, none, none, none, none, nf0, [], rfl, .rfl, e2, hk2, nok2, hf2, Nat.le_refl _, fun g => rfl⟩ (fun i τ G _ ⟨_, _, _, _, _, _, _, _, _, e, _⟩ => gE [nw, fd] G (by
      simp only [List.mem_cons, List.not_mem_nil, or_false, not_or]
      exact ⟨ne_of_none hkn hnwH, ne_of_none hkn hfdH⟩) e) (fun i u τ Ga Gb lt I yy => ?_) (fun τ Ga I => ?_)
  · obtain ⟨v4, v5, v6, v7, v8, v9, nf, fkv, rfl, e, eH, hk, nok, hf, lf, fok⟩ := I
    obtain ⟨rfl, hy⟩ := yy
    have hei : bs[i]? = some bs[i] := List.getElem?_eq_getElem (by omega)
    generalize bs[i] = ed at hei
    obtain ⟨c, rfl, hcc⟩ := (pair_at pk hy hei).ext0 eH
    obtain ⟨m1, m2⟩ := pf.mem ed (sub ed (List.mem_of_getElem? hei))
    generalize hst : bRun ns (bs.take i) = st at nok fok
    have bok : BOk ns st := by rw [← hst]; exact bRun_ok pn2 _
    have q1 := bok.l1 ed.1
    have q2 := bok.l1 ed.2
    refine ⟨c, _, rfl, .inl (.inl hcc), rfl, _, _, rfl, _, _, rfl, rfl, ?_⟩
    refine ⟨_, rfl, _, rfl, nw, _, rfl, dg_mk hk m1, _, rfl, _, rfl, nw, _, rfl, dg_mk hk m2, _, _, _, _, rfl, rfl, nok _ m1, nok _ m2, Nat.le_of_lt (lenZ (by rw [List.length_map, List.length_map]; omega)), fun p hp => ?_⟩
    have ll : (((st.1 ed.1 ++ st.1 ed.2)).map V.str).length ≤ 120 := by rw [List.length_map, List.length_append]; omega
    refine ⟨p, (st.1 ed.1 ++ st.1 ed.2).map V.str, rfl, Sx.sq (.inl (by rw [List.map_append]; exact upd_same)), fun J2 Gq2 g02 gE2 wk2 bd hbd => ?_⟩
    have eP : Ext [] Gb (upd Gb p (.lst ((st.1 ed.1).map V.str ++ (st.1 ed.2).map V.str))) := ext_new hp
    refine dc_run wk2 (fun H' e => gE2 [] H' (by simp) e) hbd (fun k kvs _ => ∀ z, (valV kvs (.inr z)).isSome = true ↔ z ∈ (st.1 ed.1 ++ st.1 ed.2).take k) (fun z => by simp [valV]) (fun k u Gc Gd lt2 I2 yy2 => ?_) fun kvs G3 e3 hk3 r3 => ?_
    · obtain ⟨rfl, hy2⟩ := yy2
      obtain ⟨z, rfl, hz, mz⟩ := at_str hy2
      obtain ⟨e0, acc, hacc, la, racc⟩ := I2
      refine ⟨rfl, _, rfl, dcp hbd e0 hacc la (by omega) (k := .inr z) rfl fun w' => ?_⟩
      rw [take_next hz, valV_put]
      by_cases q : w' = z
      · subst q
        simp
      · rw [if_neg (fun y => q (Sum.inr.inj y)), racc w']
        simp [q]
    have r3 : ∀ z, (valV kvs (.inr z)).isSome = true ↔ z ∈ (st.1 ed.1 ++ st.1 ed.2).take ((st.1 ed.1 ++ st.1 ed.2).map V.str).length := r3
    rw [List.length_map, List.take_of_length_le (Nat.le_refl _)] at r3
    have e13 : Ext [] Gb G3 := eP.trans e3
    have eH3 := eH.trans e13
    refine ⟨_, rfl, x, CV, dx, fs, _, rfl, eH3.at0 y.o, hc, T.nV _ (by simp), y.f1, nb, _, rfl, Sx.sq (.inr (eH3.at0 y.n)), fun J3 Gq3 g03 gE3 wk3 pp hpp => ?_⟩
    refine lc_run wk3 (fun H' e => gE3 [] H' (by simp) e) hpp (Rl ns fun z => if decide (z ∈ st.1 ed.1 ++ st.1 ed.2) = true then some (V.str z) else none) rfl (fun k u Gc Gd lt3 I3 yy3 => ?_) fun acc G4 e4 hacc rr => ?_
    · obtain ⟨rfl, hy3⟩ := yy3
      obtain ⟨z, rfl, hz, mz⟩ := at_str hy3
      refine ⟨rfl, _, rfl, _, rfl, bd, _, rfl, DGet.k (k := .inr z) (I3.1.at0 hk3), _, rfl, ?_⟩
      by_cases q : z ∈ st.1 ed.1 ++ st.1 ed.2
      · exact itB ((r3 z).mpr q) ⟨_, rfl, lm_push hpp I3 .rfl hz (by omega) (by rw [decide_eq_true q]; rfl)⟩
      · exact itN (by rw [Bool.eq_false_iff]; exact fun y => q ((r3 z).mp y)) (lm_skip I3 .rfl hz (by rw [decide_eq_false q]; rfl))
    have rr : acc = (ns.take (ns.map V.str).length).filterMap (fun z => if decide (z ∈ st.1 ed.1 ++ st.1 ed.2) = true then some (V.str z) else none) := rr
    rw [lns, List.take_of_length_le (Nat.le_refl _), strs_map] at rr
    have hpart : G4 pp = some (.lst ((bPart ns st ed).map V.str)) := by rw [hacc, rr]; rfl
    obtain ⟨lp, sp⟩ := bPart_ok (st := st) (e := ed) pn2
    generalize hP : bPart ns st ed = part at hpart lp sp
    have e14 : Ext [] Gb G4 := e13.trans e4
    refine ⟨_, rfl, _, rfl, _, rfl, _, rfl, by show 2 ≤ sizeLine; decide, fun p4 h4 => ?_⟩
    have e15 : Ext [] Gb (upd G4 p4 (.tup [.str ed.1, .str ed.2])) := e14.new h4
    refine ⟨fd, _, rfl, DPut.t (k := kE ed) (e15.at0 hf) upd_same (lenZ (by omega)), ?_⟩
    have hk5 : (upd (upd G4 p4 (.tup [.str ed.1, .str ed.2])) fd (.dT (putK fkv (kE ed) (.ref pp)))) nw = some (.dK (mk ns fun z => .ref (nf z))) := by
      rw [upd_ne nwfd]
      exact e15.at0 hk
    have nok5 : NowAt (upd (upd G4 p4 (.tup [.str ed.1, .str ed.2])) fd (.dT (putK fkv (kE ed) (.ref pp)))) ns nf st.1 := (nok.ext e15).upd (e15.at0 hf) fun _ z => by cases z
    have hf5 : (upd (upd G4 p4 (.tup [.str ed.1, .str ed.2])) fd (.dT (putK fkv (kE ed) (.ref pp)))) fd = some (.dT (putK fkv (kE ed) (.ref pp))) := upd_same
    have hpart4 := (ext_new (L := []) (o := .tup [.str ed.1, .str ed.2]) h4).at0 hpart
    have hpart5 : (upd (upd G4 p4 (.tup [.str ed.1, .str ed.2])) fd (.dT (putK fkv (kE ed) (.ref pp)))) pp = some (.lst (part.map V.str)) := by
      rw [upd_ne (fun q => by rw [q, e15.at0 hf] at hpart4; cases hpart4)]
      exact hpart4
    have fok5 : FndAt (upd (upd G4 p4 (.tup [.str ed.1, .str ed.2])) fd (.dT (putK fkv (kE ed) (.ref pp)))) (putK fkv (kE ed) (.ref pp)) (fun g => if g = ed then some part else st.2 g) := ((fok.ext e15).upd (e15.at0 hf) fun _ z => by cases z).put hpart5
    have eN5 : Ext [nw, fd] G2 (upd (upd G4 p4 (.tup [.str ed.1, .str ed.2])) fd (.dT (putK fkv (kE ed) (.ref pp)))) := (e.trans e15.of0).putL (by simp)
    have eH5 : Ext [] H (upd (upd G4 p4 (.tup [.str ed.1, .str ed.2])) fd (.dT (putK fkv (kE ed) (.ref pp)))) := (eH.trans e15).put hfdH
    revert hk5 nok5 hf5 hpart5 fok5 eN5 eH5
    generalize upd (upd G4 p4 (.tup [.str ed.1, .str ed.2])) fd (.dT (putK fkv (kE ed) (.ref pp))) = G5
    intro hk5 nok5 hf5 hpart5 fok5 eN5 eH5
    have npw : pp ≠ nw := fun q => by rw [q, hk5] at hpart5; cases hpart5
    have lpm : (part.map V.str).length = part.length := List.length_map ..
    have hd1 : bPart ns (bRun ns (bs.take i)) ed = part := by rw [hst, hP]
    have hd2 : bRun ns (bs.take (i + 1)) = (fun z => if z ∈ part then part else st.1 z, fun g => if g = ed then some part else st.2 g) := by
      rw [take_next hei, bRun_snoc]
      unfold bStep
      rw [hd1, hst]
    refine ⟨_, rfl, pp, _, rfl, Sx.sq (.inl hpart5), fun J4 Gq4 g04 gE4 wk4 => ?_⟩
    refine for_it wk4 (fun j τ G => ∃ (v4 v9 : Option V), τ = [some (.ref x), some (.ref kn), some (.ref nw), some (.ref fd), v4, some (.str ed.1), some (.str ed.2), some (.ref bd), some (.ref pp), v9] ∧ Ext [nw] G5 G ∧ Ext [] H G ∧ G nw = some (.dK (mk ns fun z => .ref (if z ∈ part.take j then pp else nf z))))
      ⟨_, _, rfl, .rfl, eH5, hk5⟩ (fun j τ G _ ⟨_, _, _, e, _⟩ => gE4 [nw] G (by simpa using npw) e) (fun j u τ Gc Gd lt4 I4 yy4 => ?_) (fun τ Gc I4 => ?_)
    · obtain ⟨v4, v9, rfl, e6, eH6, hk6⟩ := I4
      obtain ⟨rfl, hy4⟩ := yy4
      obtain ⟨z, rfl, hz, mz⟩ := at_str hy4
      refine ⟨_, rfl, _, rfl, _, rfl, nw, _, rfl, DPut.k (k := .inr z) hk6 (lenZ (by rw [List.length_map]; omega)), ?_⟩
      refine ⟨_, _, rfl, e6.putL (by simp), eH6.put hnwH, ?_⟩
      rw [upd_same, mk_put (sp z mz)]
      refine congrArg (fun q => some (HO.dK q)) (mk_congr fun w' hw => ?_)
      rw [take_next hz]
      by_cases q : w' = z
      · subst q
        simp
      · simp [q]
    · obtain ⟨v4, v9, rfl, e6, eH6, hk6⟩ := I4
      rw [lpm, List.take_of_length_le (Nat.le_refl _)] at hk6
      have ll6 : ∀ b l, b ≠ nw → G5 b = some (.lst l) → Gc b = some (.lst l) := fun b l n h => e6.at1 n h
      refine ⟨_, _, _, _, _, _, fun z => if z ∈ part then pp else nf z, putK fkv (kE ed) (.ref pp), rfl, eN5.trans (e6.wide (by simp)), eH6, hk6, ?_, e6.at1 (Ne.symm nwfd) hf5, Nat.le_trans (length_putK ..) (by omega), ?_⟩
      · rw [hd2]
        intro z hz
        show Gc (if z ∈ part then pp else nf z) = some (.lst ((if z ∈ part then part else st.1 z).map V.str))
        by_cases q : z ∈ part
        · rw [if_pos q, if_pos q]
          exact ll6 _ _ npw hpart5
        · rw [if_neg q, if_neg q]
          exact ll6 _ _ (fun y => by have w' := nok5 z hz; rw [y, hk5] at w'; cases w') (nok5 z hz)
      · rw [hd2]
        exact fok5.map fun b l hb => ll6 b l (fun y => by rw [y, hk5] at hb; cases hb) hb
  obtain ⟨v4, v5, v6, v7, v8, v9, nf, fkv, rfl, e, eH, hk, nok, hf, lf, fok⟩ := I
  rw [lyb, List.take_of_length_le (Nat.le_refl _)] at fok
  have lts := y.p.length
  have pel := pf.el
  have bok := bRun_ok pn2 bs
  refine ⟨_, rfl, x, CV, dx, fs, _, rfl, eH.at0 y.o, hc, T.nV _ (by simp), y.f3, rd, _, rfl, Sx.sq (.inr (eH.at0 y.d)), fun J2 Gq2 g02 gE2 wk2 D2 hD2 => ?_⟩
  refine dt_run wk2 (fun H' e => gE2 [] H' (by simp) e) hD2 (fun i kvs G => Paired (PtAt H G) kvs ((es.take i).filterMap fun e => ((bRun ns bs).2 e).map fun p => (e, p))) .nil (fun k u Gc Gd lt2 I2 yy2 => ?_) fun kvs G3 e3 hk3 r3 => ?_
  · obtain ⟨rfl, hy2⟩ := yy2
    obtain ⟨e0, acc, hacc, la, pa⟩ := I2
    have hei : es[k]? = some es[k] := List.getElem?_eq_getElem (by omega)
    generalize es[k] = ed at hei
    obtain ⟨c, rfl, hcc⟩ := ((pair_at y.p hy2 hei).ext0 eH).ext0 e0
    refine ⟨rfl, _, rfl, _, rfl, fd, _, rfl, DGet.t (k := kE ed) (e0.at0 hf) hcc, _, rfl, ?_⟩
    cases q : (bRun ns bs).2 ed with
    | none =>
      refine itN (by rw [fok.none q]; rfl) ⟨e0, acc, hacc, Nat.le_succ_of_le la, ?_⟩
      show Paired _ acc ((es.take (k + 1)).filterMap _)
      rw [take_next hei, List.filterMap_append]
      simp only [List.filterMap_cons, List.filterMap_nil, q, Option.map_none, List.append_nil]
      exact pa
    | some p =>
      obtain ⟨b, w1, w2⟩ := fok.some q
      refine itB (by rw [w1]; rfl) ⟨_, rfl, _, rfl, _, rfl, fd, .ref b, rfl, by rw [← w1]; exact DGet.t (k := kE ed) (e0.at0 hf) hcc, b, _, rfl, .inl (.inl (.inl (e0.at0 w2))), fun l hl => ?_⟩
      have eL : Ext [] Gd (upd Gd l (.lst (p.map V.str))) := ext_new hl
      have nlD : l ≠ D2 := fun q => by rw [q, hacc] at hl; cases hl
      refine dtp hD2 (e0.trans eL) (eL.at0 hacc) la (by omega) (k := kE ed) rfl (eL.at0 hcc) ?_
      show Paired _ _ ((es.take (k + 1)).filterMap _)
      have keep : ∀ o b' l', (upd Gd l (.lst (p.map V.str))) b' = some (.lst l') → (upd (upd Gd l (.lst (p.map V.str))) D2 o) b' = some (.lst l') := fun o b' l' h => by
        rw [upd_ne (fun q => by rw [q, eL.at0 hacc] at h; cases h)]
        exact h
      rw [putK_new (pts_none pa fun p' hp' z => ?_), take_next hei, List.filterMap_append]
      · simp only [List.filterMap_cons, List.filterMap_nil, q, Option.map_some]
        exact pair_snoc (pair_map pa fun kv p' h => h.mono fun b' l' hb => keep _ b' l' (eL.at0 hb)) ⟨rfl, l, rfl, keep _ _ _ upd_same, (eH.trans e0).free0 hl⟩
      · obtain ⟨e', he', hp2⟩ := List.mem_filterMap.mp hp'
        obtain ⟨pp', _, rfl⟩ := Option.map_eq_some_iff.mp hp2
        have z : e' = ed := z
        subst z
        obtain ⟨j, hj⟩ := List.mem_iff_getElem?.mp he'
        obtain ⟨lj, _⟩ := List.getElem?_eq_some_iff.mp hj
        rw [List.length_take] at lj
        rw [List.getElem?_take_of_lt (by omega)] at hj
        have := pf.acy.uniq hj hei (.inl rfl)
        omega
  · have r3 : Paired (PtAt H G3) kvs ((es.take ts.length).filterMap fun e => ((bRun ns bs).2 e).map fun p => (e, p)) := r3
    rw [List.take_of_length_le (by omega)] at r3
    exact q G3 D2 kvs (eH.trans e3) (eH.free0 hD2) hk3 r3
end
end K70

/-! K7I: feasts by houses. -/
namespace K70
open PySem PySem.Spec PyProof.Rows L2 LamX
/-- how often z stands in the parts -/
abbrev cntP (ps : List (Ed × List PySem.Str)) (z : PySem.Str) : Nat := ((ps.map Prod.snd).flatten).count z
theorem cnt_snoc {l : List PySem.Str} {y z : PySem.Str} : (l ++ [y]).count z = l.count z + (if z = y then 1 else 0) := by
  rw [List.count_append, List.count_singleton]
  by_cases h : z = y
  · subst h
    simp
  · rw [if_neg h, if_neg (by simpa using Ne.symm h)]
theorem cntP_snoc {ps : List (Ed × List PySem.Str)} {p : Ed × List PySem.Str} {z : PySem.Str} : cntP (ps ++ [p]) z = cntP ps z + p.2.count z := by
  show ((ps ++ [p]).map Prod.snd).flatten.count z = _
  rw [List.map_append, List.flatten_append, List.count_append]
  simp
structure PsOk (ns : List PySem.Str) (ps : List (Ed × List PySem.Str)) : Prop where
  n : ps.length ≤ 100
  s : ∀ p ∈ ps, p.2.length ≤ 60 ∧ ∀ z ∈ p.2, z ∈ ns
theorem bParts_ok {ns : List PySem.Str} {es bs : List Ed} (h : ns.length ≤ 60) (l : es.length ≤ 100) : PsOk ns (bParts ns es bs) := ⟨Nat.le_trans (List.length_filterMap_le ..) l, fun p hp => by
  obtain ⟨e, he, h2⟩ := List.mem_filterMap.mp hp
  obtain ⟨p', h3, rfl⟩ := Option.map_eq_some_iff.mp h2
  exact (bRun_ok h bs).s2 e p' h3⟩
/-! ### y = {..}, y a local -/
theorem sw_trueD {ke ve : Expr} {gens : List Comprehension} {sc : Scope} {ps pn : Pos} {nm : PySem.Str} {ln : Nat} {en : Env} (h1 : en.scope.kind = .function) (h2 : en.scope.names.lookup nm = some .local) (h3 : (pn.line == ps.line) = true)
    (h4 : (sc.names.any fun (n, k) => n == nm && (k == .local || k == .cell)) = false) : swapsWith (.DictComp ke ve gens sc ps) (some (.Name nm pn)) ln en = pure true := by
  have k1 : en.kindOf nm = some .local := h2
  have k2 : en.blockKind = .function := by
    unfold Env.blockKind
    rw [h1]
    rfl
  unfold swapsWith
  simp only [k2, k1, h4, Expr.pos, h3]
  rfl
theorem ps_setDc {X : Cx} {j : Nat} {nm : PySem.Str} {pn : Pos} {ke ve tg it : Expr} {fs : List Expr} {sc : Scope} {own : List (PySem.Str × Nat)} {ps sp : Pos} {wi : TI} {g : TG} {tt : TT} {tk tv : TE} (hc : X.calm = true) (hN : X.N.Nodup) (h1 : X.N[j]? = some nm) (h2 : X.env.scope.names.lookup nm = some .local)
    (h3 : swapsWith (.DictComp ke ve [⟨tg, it, fs, 0⟩] sc ps) (some (.Name nm pn)) sp.line X.env = pure true) (hi : PI X tg it wi) (ok : BlkOk X.N X.env.scope sc own)
    (hg : ∀ (s : Shared) (H : Hp) (B : Addr) (cells : List (PySem.Str × Addr)) (fp : List Addr), PG (X.blk s H sc (compEnvC sc cells B X.env) fp) tg g) (ht : ∀ (s : Shared) (H : Hp) (B : Addr) (cells : List (PySem.Str × Addr)) (fp : List Addr), PTs (X.blk s H sc (compEnvC sc cells B X.env) fp) fs tt)
    (hk : ∀ (s : Shared) (H : Hp) (B : Addr) (cells : List (PySem.Str × Addr)) (fp : List Addr), PE (X.blk s H sc (compEnvC sc cells B X.env) fp) ke tk) (hv : ∀ (s : Shared) (H : Hp) (B : Addr) (cells : List (PySem.Str × Addr)) (fp : List Addr), PE (X.blk s H sc (compEnvC sc cells B X.env) fp) ve tv)
    (hs : ∀ x, foldedSetIterable it X.env x = pure x := by intro _; rfl) : PS X (.Assign [.Name nm pn] (.DictComp ke ve [⟨tg, it, fs, 0⟩] sc ps) sp) (tAsg (tDc wi g tt tk tv (own.map (·.2))) (gName j)) := by
  refine ⟨fun pins s σ H D I h => ?_⟩
  rw [exec_Assign_Name_used _ _ _ _ h3]
  refine wpAny_bind (wpAny_standAt (wpAny_bind ?_))
  show wpAny _ X.A (do let _ ← comprehension (.DictComp ke ve [⟨tg, it, fs, 0⟩] sc ps) sc X.env (firstIterPos [⟨tg, it, fs, 0⟩] ps) newDict false (eval it X.env) (some (assign (.Name nm pn) X.env))) _ _ s
  have hq : tDc wi g tt tk tv (own.map (·.2)) σ H (fun u G => gName j u σ G D.nx) := h
  refine wpAny_bind (thn (dc_core (Qf := fun _ z => SP X pins D .next z) hc hN I hi ok hg ht hk hv hs hq fun L B z m G J q hm f => ?_) fun _ z hz => wpAny_pure (wpAny_pure hz))
  show wpAny _ _ (assign (.Name nm pn) X.env (.ref L)) _ _ _
  refine wpAny_assign_Name (store_ok2 (v := V.ref L) J hN h1 (.inl h2) rfl (fun z2 J2 ⟨b, sb, hb⟩ => ?_) (.inr h2))
  obtain ⟨g0, g1, _, g3, g4, g5⟩ := f
  have nb : B ≠ b := by
    rcases hb with e | e
    · rw [e]
      exact g1
    · exact fun e' => g4 nm b e e'.symm
  exact ⟨m, hm.sameBut sb nb, fun h3 sb3 => ⟨_, G, J2.turned (t' := z2.toks) (fun b o hb e => (sb3.2 b hb).trans e) g0 g1 g3 g4 g5, q⟩⟩
section
variable {P : Program} {w : World} {K : PySem.W.Frag} {mg : Str → Option Value} {base : Heap} {CV CG CB : Addr}
def spBy (CV : Addr) : Sp := fun vs H Q _ => ∃ (v : V) (d : Addr) (H0 : Hp) (kvs : List (List Key × V)) (ns : List PySem.Str) (es : List Ed) (hs : List Int) (ps : List (Ed × List PySem.Str)), vs = [v, .ref d] ∧ Vy CV H v ns es ∧ Pf ns es hs ∧ H d = some (.dT kvs) ∧ Paired (PtAt H0 H) kvs ps ∧ PsOk ns ps ∧
  ∀ H' c, Ext [d] H H' → H c = none → H' c = some (.dK (mk ns fun z => .int (cntP ps z : Nat))) → Q (.ref c) H'
abbrev N_feasts_by : List PySem.Str := ["valley", "found", "counts", "name", "part"]
theorem sc_feasts_by : FnScope N_feasts_by ["valley", "found"] (defScope (topS 25)) := ⟨rfl, rfl, rfl, by decide +kernel, rfl, by decide +kernel, by decide +kernel⟩
theorem bb_feasts_by : BindsBy "feasts_by" (topS 25) ["valley", "found"] := fun _ _ _ _ _ _ us hl => match us, hl with | [_, _], _ => rfl
theorem ok_by (T : Tx P K mg CV CG CB) (D : Df K mg "feasts_by" (topS 25)) : Cl P w K mg base CX0 1 "feasts_by" (spBy CV) := by
  refine D.cl0 sc_feasts_by bb_feasts_by (fun vs H Q E ⟨x, _, _, _, _, _, _, _, e, _⟩ => by rw [e]; rfl) fun f cdv A outer s H vs Q E hr h => ?_
  have nd := sc_feasts_by.nd
  obtain ⟨v, d, H0, kvs, ns, es, hs, ps, rfl, vy, pf, hd, pp, pok, q⟩ := h
  refine ⟨_, (pss_cons (ps_setDc (j := 2) (own := [("name", 3)]) (g := gName 3) (tt := tYes) rfl nd rfl rfl (sw_trueD rfl rfl rfl (by decide +kernel)) (pi_seq (pe_fld (pv 0) rfl)) (blkOk_by (N := N_feasts_by) (sc := defScope (topS 25)) (by decide +kernel)) (fun _ _ _ _ _ => (pg_name (i := 3) nd rfl (.inl rfl))) (fun _ _ _ _ _ => pts_nil) (fun _ _ _ _ _ => (pv 3)) (fun _ _ _ _ _ => pe_int))
  (pss_cons (ps_for PassesOwn.never rfl (pi_valsT (pv 1)) (pg_name (i := 4) nd rfl (.inl rfl))
    (pss_one (ps_for PassesOwn.never rfl (pi_seq (pv 4)) (pg_name (i := 3) nd rfl (.inl rfl))
    (pss_one (ps_daug (hu_of hr) (pv 2) (pv 3) pe_int in_add (fun _ _ _ => rfl))))))
  (pss_one (ps_ret (pv 2))))), ?_⟩
  obtain ⟨x, dx, fs, nb, rk, rd, pl, ts, pkv, rfl, y⟩ := vy
  have hc : Cls K CV := T.iV.cl
  have lns : (ns.map V.str).length = ns.length := List.length_map ..
  have pn2 := pf.n2
  have lkp := pp.length
  refine ⟨_, rfl, x, CV, dx, fs, _, rfl, y.o, hc, T.nV _ (by simp), y.f1, nb, _, rfl, Sx.sq (.inr y.n), fun J Gq g0 gE wk cn hcn => dc_run wk (fun H' e => gE [] H' (by simp) e) hcn (Rm ns fun _ => .int 0) rfl (fun i u Ga Gb lt I yy => ?_) fun kvs2 G1 e1 hk1 r => ?_⟩
  · obtain ⟨rfl, hy⟩ := yy
    obtain ⟨z, rfl, hz, mz⟩ := at_str hy
    exact ⟨rfl, _, rfl, dm_push pf.nd hcn I .rfl hz (by omega) rfl⟩
  have r : kvs2 = mk (ns.take (ns.map V.str).length) fun _ => .int 0 := r
  rw [lns, List.take_of_length_le (Nat.le_refl _)] at r
  subst r
  have hd1 := e1.at0 hd
  refine ⟨_, rfl, d, kvs, rfl, hd1, fun od => ?_⟩
  have ncd : cn ≠ d := fun q => by rw [q, hd] at hcn; cases hcn
  have eF : Ext [d] H (upd G1 d (.frz od (.dT kvs))) := (e1.of0).putL (by simp)
  refine for_it walk_valsT (fun i τ G => ∃ v3 v4, τ = [some (.ref x), some (.ref d), some (.ref cn), v3, v4] ∧ Ext [cn] (upd G1 d (.frz od (.dT kvs))) G ∧ Ext [d] H G ∧ G cn = some (.dK (mk ns fun z => .int (cntP (ps.take i) z : Nat))))
    ⟨none, none, rfl, .rfl, eF, by rw [upd_ne ncd]; exact hk1⟩ (fun i τ G _ ⟨_, _, _, e, _⟩ => e.at1 (Ne.symm ncd) upd_same) (fun i u τ Ga Gb lt I yy => ?_) (fun τ Ga I => ?_)
  · obtain ⟨v3, v4, rfl, e, eH, hk⟩ := I
    obtain ⟨rfl, k, hy⟩ := yy
    have hpi : ps[i]? = some ps[i] := List.getElem?_eq_getElem (by omega)
    generalize ps[i] = p at hpi
    obtain ⟨_, b, hb, hl, _⟩ := pair_at pp hy hpi
    have hb : u = .ref b := hb
    subst hb
    obtain ⟨lp, sp⟩ := pok.s p (List.mem_of_getElem? hpi)
    have nbd : b ≠ d := fun q => by rw [q, hd] at hl; cases hl
    have hl2 := eH.at1 nbd hl
    have nbc : b ≠ cn := fun q => by rw [q, hk] at hl2; cases hl2
    refine ⟨_, rfl, b, _, rfl, Sx.sq (.inl hl2), fun J4 Gq4 g04 gE4 wk4 => ?_⟩
    refine for_it wk4 (fun j τ G => ∃ v3, τ = [some (.ref x), some (.ref d), some (.ref cn), v3, some (.ref b)] ∧ Ext [cn] Gb G ∧ Ext [d] H G ∧ G cn = some (.dK (mk ns fun z => .int ((cntP (ps.take i) z + (p.2.take j).count z : Nat)))))
      ⟨_, rfl, .rfl, eH, by simpa using hk⟩ (fun j τ G _ ⟨_, _, e, _⟩ => gE4 [cn] G (by simpa using nbc) e) (fun j u τ Gc Gd lt4 I4 yy4 => ?_) (fun τ Gc I4 => ?_)
    · obtain ⟨v3, rfl, e6, eH6, hk6⟩ := I4
      obtain ⟨rfl, hy4⟩ := yy4
      obtain ⟨z, rfl, hz, mz⟩ := at_str hy4
      refine ⟨_, rfl, _, rfl, cn, _, rfl, dg_mk hk6 (sp z mz), _, _, rfl, rfl, _, DPut.k (k := .inr z) hk6 (lenZ (by rw [List.length_map]; omega)), ?_⟩
      refine ⟨_, rfl, e6.putL (by simp), eH6.put hcn, ?_⟩
      rw [upd_same, mk_put (sp z mz)]
      refine congrArg (fun q => some (HO.dK q)) (mk_congr fun w' hw => ?_)
      rw [take_next hz, cnt_snoc]
      by_cases q : w' = z
      · subst q
        rw [if_pos rfl, if_pos rfl]
        exact congrArg V.int (by push_cast; omega)
      · rw [if_neg q, if_neg q]
        rfl
    · obtain ⟨v3, rfl, e6, eH6, hk6⟩ := I4
      rw [List.length_map, List.take_of_length_le (Nat.le_refl _)] at hk6
      refine ⟨_, _, rfl, e.trans e6, eH6, ?_⟩
      rw [hk6, take_next hpi]
      exact congrArg (fun q => some (HO.dK q)) (mk_congr fun w' hw => by rw [cntP_snoc])
  · obtain ⟨v3, v4, rfl, e, eH, hk⟩ := I
    rw [lkp, List.take_of_length_le (Nat.le_refl _)] at hk
    exact ⟨_, rfl, q Ga cn eH hcn hk⟩
def spSoFar (CV CG CB : Addr) : Sp := fun vs H Q E => ∃ v t, vs = [v, t] ∧ BgCs CV CG H v t (fun ns es bs => ∀ H' c, Ext [] H H' → H c = none → H' c = some (.dK (mk ns fun z => .int (bCnt ns es bs z : Nat))) → Q (.ref c) H') (Refd CB "begun" t H E) E
theorem good_sub {H : Hp} {ns : List PySem.Str} {es bs : List Ed} {t : V} (h : KnGood H ns es t bs) : (∀ e ∈ bs, e ∈ es) ∧ bs.length ≤ 500 := by
  obtain ⟨b, xs, _, _, l, p, _⟩ := h
  have := p.length
  refine ⟨fun e he => ?_, by omega⟩
  obtain ⟨i, hi⟩ := List.mem_iff_getElem?.mp he
  obtain ⟨li, _⟩ := List.getElem?_eq_some_iff.mp hi
  have hx : xs[i]? = some xs[i] := List.getElem?_eq_getElem (by omega)
  exact rd_mem (pair_at p hx hi)
abbrev N_feasts_so_far : List PySem.Str := ["valley", "begun"]
theorem sc_feasts_so_far : FnScope N_feasts_so_far ["valley", "begun"] (defScope (topS 33)) := ⟨rfl, rfl, rfl, by decide +kernel, rfl, by decide +kernel, by decide +kernel⟩
theorem bb_feasts_so_far : BindsBy "feasts_so_far" (topS 33) ["valley", "begun"] := fun _ _ _ _ _ _ us hl => match us, hl with | [_, _], _ => rfl
theorem ok_sofar (T : Tx P K mg CV CG CB) (D : Df K mg "feasts_so_far" (topS 33)) (c_checked_begun : Cl P w K mg base (L2.CX P w) 4 "checked_begun" (spChecked CV CG CB)) (c_begun_parts : Cl P w K mg base CX0 1 "begun_parts" (spParts CV)) (c_feasts_by : Cl P w K mg base CX0 1 "feasts_by" (spBy CV)) :
    Cl P w K mg base (L2.CX P w) 5 "feasts_so_far" (spSoFar CV CG CB) ∧ ClS P w K mg base (L2.CX P w) 5 "feasts_so_far" "valley" "begun" (spSoFar CV CG CB) := by
  refine D.clS sc_feasts_so_far bb_feasts_so_far (fun _ _ _ _ _ _ _ _ => rfl) (fun vs H Q E ⟨x, _, e, _⟩ => by rw [e]; rfl) fun f cdv A outer s H vs Q E hr h => ?_
  have nd := sc_feasts_so_far.nd
  obtain ⟨v, t, rfl, cs⟩ := h
  refine ⟨_, (pss_one (ps_ret (pe_k c_feasts_by hr pass0 (pa_cons (pv 0) (pa_cons (pe_k c_begun_parts hr pass0 (pa_cons (pv 0) (pa_cons (pe_k c_checked_begun hr (passes_call (takes_of rfl rfl rfl rfl) fun _ _ _ _ h => h) (pa_cons (pv 0) (pa_cons (pv 1) pa_nil))) pa_nil))) pa_nil))))), ?_⟩
  refine ⟨_, rfl, _, rfl, _, rfl, _, rfl, v, t, rfl, ?_⟩
  rcases cs with ⟨ns, es, hs, bs, vy, pf, kg, q⟩ | ⟨ns, es, hs, vy, pf, ko, q⟩ | h
  · obtain ⟨sub, lb⟩ := good_sub kg
    have pn2 := pf.n2
    have pel := pf.el
    refine .inl ⟨ns, es, hs, bs, vy, pf, kg, fun H1 p ys e1 f1 h1 pk => ?_⟩
    refine ⟨v, p, ys, ns, es, bs, hs, rfl, vy.ext0 e1, pf, h1, pk, sub, lb, fun H2 d kvs e2 f2 h2 pp => ?_⟩
    refine ⟨v, d, H1, kvs, ns, es, hs, _, rfl, vy.ext0 (e1.trans e2), pf, h2, pp, bParts_ok pn2 (by omega), fun H3 c e3 f3 h3 => ?_⟩
    have e13 : Ext [] H H3 := fun b o _ hb => e3.at1 (fun z => by rw [z, e1.free0 f2] at hb; cases hb) ((e1.trans e2).at0 hb)
    exact q H3 c e13 ((e1.trans e2).free0 f3) h3
  · exact .inr (.inl ⟨ns, es, hs, vy, pf, ko, q⟩)
  · exact .inr (.inr h)
end
end K70

/-! K7J: lots by labels. -/
namespace K70
open PySem PySem.Spec PyProof.Rows L2 LamX
/-! ### a walk over what stays at its place -/
theorem sq_walkP {K : PySem.W.Frag} {H : Hp} {a : Addr} {xs : List V} {R : It → Hp → Prop} (h : Sq K H a xs)
    (r : ∀ (J : It) (G : Hp → Prop), G H → (∀ H', (∀ o, H a = some o → H' a = some o) → G H') → Walk J xs.length G (YAt xs) → R J H) : ((∃ xs, SqL K H a xs) ∧ R (Itl K a) H) ∨ ((∃ xs, SqT K H a xs) ∧ R (Itt K a) H) := by
  rcases h with h | h
  · refine .inl ⟨⟨xs, h⟩, r _ _ h (fun H' e => ?_) walk_list⟩
    rcases h with (h | ⟨o, h⟩) | h
    · exact .inl (.inl (e _ h))
    · exact .inl (.inr ⟨o, e _ h⟩)
    · exact .inr h
  · refine .inr ⟨⟨xs, h⟩, r _ _ h (fun H' e => ?_) walk_tup⟩
    rcases h with (h | ⟨o, h⟩) | h
    · exact .inl (.inl (e _ h))
    · exact .inl (.inr ⟨o, e _ h⟩)
    · exact .inr h
def iSeqP (K : PySem.W.Frag) (tl : TE) : TI := fun σ H R => tl σ H fun x H1 => ∃ a xs, x = .ref a ∧ Sq K H1 a xs ∧ ∀ (J : It) (G : Hp → Prop), G H1 → (∀ H', (∀ o, H1 a = some o → H' a = some o) → G H') → Walk J xs.length G (YAt xs) → R J H1
theorem pi_seqP {X : Cx} {tg l : Expr} {tl : TE} (hl : PE X l tl) : PI X tg l (iSeqP X.K tl) := by
  refine ⟨fun pins s σ H R I h => thn (hl.run pins s σ H _ I h) fun v s1 ⟨x, H1, I1, r1, q1⟩ => ?_⟩
  obtain ⟨a, xs, rfl, hq0, q1⟩ := q1
  have q2 := sq_walkP (R := R) hq0 q1
  obtain rfl : v = Value.ref a := r1
  have kp : ∀ (o : Obj) (b : Addr) (u : Obj), s1.heap.get? b = some u → (s1.heap.push o).get? b = some u := fun o b u e => Heap.get?_push_of_some _ e
  have fp1 : ∀ (b : Addr), b ∈ [s1.heap.objs.size] → FpOk X pins H1 b := fun b hb => by
    rw [List.mem_singleton.mp hb]
    exact I1.fpOk (Nat.le_refl _) (I1.hok.fresh (Nat.le_refl _))
  rcases q2 with ⟨⟨xs, hq⟩, q⟩ | ⟨⟨xs, hq⟩, q⟩
  · obtain ⟨its, _, p, _⟩ := I1.list hq
    exact wpAny_pyIter_list p.isList ⟨_, [s1.heap.objs.size], _, _, H1, rfl, I1.kept (t' := s1.toks) (kp _), turn_list a _, ⟨_, Heap.get?_push_size _ rfl, rfl, rfl⟩, fp1, q⟩
  · obtain ⟨its, _, p, _⟩ := I1.tuple hq
    exact wpAny_pyIter_tuple (items := its.toArray) p ⟨_, [s1.heap.objs.size], _, _, H1, rfl, I1.kept (t' := s1.toks) (kp _), turn_tuple a _, ⟨_, Heap.get?_push_size _ rfl, rfl, rfl⟩, fp1, q⟩
/-! ### heaps where only tables change -/
abbrev tabsT (P1 P2 : Addr) : List (Addr × PySem.Str) := [(P1, "lots_behind.<locals>.<lambda>"), (P2, "_law_refused_right.<locals>.<lambda>")]
/-- all but tables stay, and the tables are in order -/
structure ExtT (T : List (Addr × PySem.Str)) (H H' : Hp) : Prop where
  n : ExtN H H'
  t : Tabs T H'
theorem ExtT.of {T : List (Addr × PySem.Str)} {H H' : Hp} (t : Tabs T H) (e : Ext [] H H') : ExtT T H H' := ⟨.of fun b o h => e.at0 h, t.ext fun b o h => e.at0 h⟩
theorem ExtT.then0 {T : List (Addr × PySem.Str)} {H H1 H2 : Hp} (a : ExtT T H H1) (e : Ext [] H1 H2) : ExtT T H H2 := ⟨a.n.trans (.of fun b o h => e.at0 h), a.t.ext fun b o h => e.at0 h⟩
theorem ExtT.trans {T : List (Addr × PySem.Str)} {H H1 H2 : Hp} (a : ExtT T H H1) (b : ExtT T H1 H2) : ExtT T H H2 := ⟨a.n.trans b.n, b.t⟩
theorem ExtT.at_ {T : List (Addr × PySem.Str)} {H H' : Hp} {b : Addr} {o : HO} (e : ExtT T H H') (h : H b = some o) (n : ∀ ps, o ≠ .tbl ps := by intro _ z; cases z) : H' b = some o := e.n b o h n
theorem ExtT.te {T : List (Addr × PySem.Str)} {H H' : Hp} {v : V} {g : Ed} (e : ExtT T H H') (h : TupE H v g) : TupE H' v g := by
  obtain ⟨c, rfl, h⟩ := h
  exact ⟨c, rfl, e.at_ h⟩
theorem ExtT.sx {T : List (Addr × PySem.Str)} {H H' : Hp} {b : Addr} {xs : List V} (e : ExtT T H H') (h : Sx H b xs) : Sx H' b xs := h.elim (fun h => .inl (e.at_ h)) fun h => .inr (e.at_ h)
theorem ExtT.vy {T : List (Addr × PySem.Str)} {H H' : Hp} {CV : Addr} {v : V} {ns : List PySem.Str} {es : List Ed} (e : ExtT T H H') (h : Vy CV H v ns es) : Vy CV H' v ns es := by
  obtain ⟨x, dx, fs, nb, rk, rd, pl, ts, kvs, rfl, y⟩ := h
  exact ⟨x, dx, fs, nb, rk, rd, pl, ts, kvs, rfl, e.at_ y.o, y.f1, y.f2, y.f3, y.f4, e.at_ y.n, e.at_ y.r, e.at_ y.d, pair_map y.p fun u w z => e.te z, e.at_ y.l, y.lk⟩
/-! ### labels, plain -/
def labS (ns : List PySem.Str) (lab : PySem.Str → PySem.Str) (e : Ed) : PySem.Str → PySem.Str :=
  if ns.idxOf (lab e.1) ≤ ns.idxOf (lab e.2) then fun z => if lab z = lab e.2 then lab e.1 else lab z else fun z => if lab z = lab e.1 then lab e.2 else lab z
def labF (ns : List PySem.Str) (bs : List Ed) : PySem.Str → PySem.Str := bs.foldl (labS ns) fun z => z
theorem labF_snoc {ns : List PySem.Str} {l : List Ed} {e : Ed} : labF ns (l ++ [e]) = labS ns (labF ns l) e := by
  unfold labF
  rw [List.foldl_append]
  rfl
theorem lab_in {ns : List PySem.Str} : ∀ {bs : List Ed}, (∀ e ∈ bs, e.1 ∈ ns ∧ e.2 ∈ ns) → ∀ z ∈ ns, labF ns bs z ∈ ns := by
  have key : ∀ (bs : List Ed) (lab : PySem.Str → PySem.Str), (∀ e ∈ bs, e.1 ∈ ns ∧ e.2 ∈ ns) → (∀ z ∈ ns, lab z ∈ ns) → ∀ z ∈ ns, bs.foldl (labS ns) lab z ∈ ns := fun bs => by
    induction bs with
    | nil => exact fun lab _ h => h
    | cons e bs ih =>
      refine fun lab m h => ih _ (fun g hg => m g (List.mem_cons_of_mem _ hg)) fun z hz => ?_
      have me := m e (by simp)
      unfold labS
      split
      · show (if lab z = lab e.2 then lab e.1 else lab z) ∈ ns
        split
        · exact h _ me.1
        · exact h z hz
      · show (if lab z = lab e.1 then lab e.2 else lab z) ∈ ns
        split
        · exact h _ me.2
        · exact h z hz
  exact fun {bs} m => key bs _ m fun z hz => hz
section
variable {P : Program} {w : World} {K : PySem.W.Frag} {mg : Str → Option Value} {base : Heap} {CV CG CB : Addr}
/-- where a def with a table stands: its code object is c -/
structure DfC (K : PySem.W.Frag) (mg : Str → Option Value) (x : Str) (st : Stmt) (c : Addr) : Prop where
  ex : ∃ (f : Addr) (fd : FuncData), FunD K x x (defArgs st) (defBody st) (defScope st) [] [] f fd ∧ mg x = some (.ref f) ∧ fd.code = .ref c
theorem DfC.cl0 {x : Str} {st : Stmt} {N ps : List Str} {k : Nat} {sp : Sp} {c : Addr} (D : DfC K mg x st c) (S : FnScope N ps (defScope st)) (hb : BindsBy x st ps) (len : ∀ vs H Q E, sp vs H Q E → vs.length = ps.length)
    (body : ∀ (f : Addr) (A : Around) (outer : List Env) (s : Shared) (H : Hp) (vs : List V) (Q : VK) (E : XK), Room k (A.deeper (envOfC x (defScope st) s.heap.objs.size f (.ref c))) → sp vs H Q E →
      ∃ t, PSs (cxOf CX0 P w K mg base N x (defScope st) f (.ref c) A outer s H E).nox (defBody st) t ∧ t { nx := fun _ H' => Q .non H', rt := Q } (start N vs) H) : Cl P w K mg base CX0 (k + 1) x sp := by
  obtain ⟨f, fd, F, g, hc⟩ := D.ex
  refine ⟨f, fd, ps, ?_, g, F.kp, F.bindsN hb⟩
  obtain ⟨oc, od, dV, kV, doc, pm, an, cdv, ct, osl, rfl, lk, hcd, _, _⟩ := F.ex
  have hc : cdv = .ref c := hc
  subst hc
  exact fn_of lk hcd S len fun A outer s H vs Q E hr hsp => by
    obtain ⟨t, a, b⟩ := body f A outer s H vs Q E hr hsp
    exact ⟨t, a.nox, b⟩
def spBehind (CV P1 P2 : Addr) : Sp := fun vs H Q _ => ∃ (v : V) (kn : Addr) (ys : List V) (ns : List PySem.Str) (es bs : List Ed) (hs : List Int), vs = [v, .ref kn] ∧ Vy CV H v ns es ∧ Pf ns es hs ∧ H kn = some (.lst ys) ∧ Paired (TupE H) ys bs ∧ (∀ e ∈ bs, e ∈ es) ∧ bs.length ≤ 500 ∧ Tabs (tabsT P1 P2) H ∧
  ∀ H' d, ExtT (tabsT P1 P2) H H' → H' d = some (.dK (mk ns fun z => .str (labF ns bs z))) → Q (.ref d) H'
abbrev N_lots_behind : List PySem.Str := ["valley", "roads", "lots", "name", "one", "other", "first", "last"]
theorem sc_lots_behind : FnScope N_lots_behind ["valley", "roads"] (defScope (topS 24)) := ⟨rfl, rfl, rfl, by decide +kernel, rfl, by decide +kernel, by decide +kernel⟩
theorem bb_lots_behind : BindsBy "lots_behind" (topS 24) ["valley", "roads"] := fun _ _ _ _ _ _ us hl => match us, hl with | [_, _], _ => rfl
theorem ok_behind (T : Tx P K mg CV CG CB) {c P1 P2 : Addr} (D : DfC K mg "lots_behind" (topS 24) c) (TB : TabB base mg c P1) (n12 : P1 ≠ P2) : Cl P w K mg base CX0 3 "lots_behind" (spBehind CV P1 P2) := by
  refine D.cl0 sc_lots_behind bb_lots_behind (fun vs H Q E ⟨x, _, _, _, _, _, _, e, _⟩ => by rw [e]; rfl) fun f A outer s H vs Q E hr h => ?_
  have nd := sc_lots_behind.nd
  obtain ⟨v, kn, ys, ns, es, bs, hs, rfl, vy, pf, hkn, pk, sub, lb, tb, q⟩ := h
  have hu2 : ∀ p ∈ tabsT P1 P2, p.1 = P1 → p.2 = "lots_behind.<locals>.<lambda>" := fun p hp e => by
    rcases List.mem_cons.mp hp with rfl | hp
    · rfl
    · rw [List.mem_singleton.mp hp] at e
      exact absurd e.symm n12
  refine ⟨_, (pss_cons (ps_set (i := 2) nd rfl (.inr rfl) (pe_dc (own := [("name", 3)]) (g := gName 3) (tt := tYes) rfl nd (pi_seq (pe_fld (pv 0) rfl)) (blkOk_by (N := N_lots_behind) (sc := defScope (topS 24)) (by decide +kernel)) (fun _ _ _ _ _ => (pg_name (i := 3) nd rfl (.inl rfl))) (fun _ _ _ _ _ => pts_nil) (fun _ _ _ _ _ => (pv 3)) (fun _ _ _ _ _ => (pv 3))))
  (pss_cons (ps_for PassesOwn.never rfl (pi_seqP (pv 1)) (pg_tup rfl (pgs_cons (pg_name (i := 4) nd rfl (.inl rfl)) (pgs_cons (pg_name (i := 5) nd rfl (.inl rfl)) pgs_nil)))
    (pss_cons (ps_asg (pe_sortK (T := tabsT P1 P2) (P := P1) (c := c) (i := 0) (pe_lst (pa_cons (pe_dget (hu_of hr) (pv 2) (pv 4) (fun _ _ => rfl)) (pa_cons (pe_dget (hu_of hr) (pv 2) (pv 5) (fun _ _ => rfl)) pa_nil))) TB rfl (List.mem_cons_self ..) hu2 (hr.mono (by decide)) rfl rfl rfl rfl rfl (by decide +kernel) (fun y hy e => (List.mem_cons.mp hy).elim (fun q => by rw [q] at e; cases e) (fun hy => by rw [List.mem_singleton.mp hy]; exact .inl rfl)) rfl rfl (fun _ _ _ _ _ _ => rfl) rfl T.sorted) (pg_unl rfl (pgs_cons (pg_name (i := 6) nd rfl (.inr rfl)) (pgs_cons (pg_name (i := 7) nd rfl (.inr rfl)) pgs_nil))))
  (pss_one (ps_set (i := 2) nd rfl (.inr rfl) (pe_dc (own := [("name", 3)]) (g := gName 3) (tt := tYes) rfl nd (pi_seq (pe_fld (pv 0) rfl)) (blkOk_by (N := N_lots_behind) (sc := defScope (topS 24)) (by decide +kernel)) (fun _ _ _ _ _ => (pg_name (i := 3) nd rfl (.inl rfl))) (fun _ _ _ _ _ => pts_nil) (fun _ _ _ _ _ => (pv 3)) (fun _ _ _ _ _ => (pe_ifExp (pt_cmpR op_eq (pe_dget (hu_of hr) (pv 2) (pv 3) (fun _ _ => rfl)) (pv 7) (nomark _)) (pv 6) (pe_dget (hu_of hr) (pv 2) (pv 3) (fun _ _ => rfl)))))))))
  (pss_one (ps_ret (pv 2))))), ?_⟩
  obtain ⟨x, dx, fs, nb, rk, rd, pl, ts, pkv, rfl, y⟩ := vy
  have hc : Cls K CV := T.iV.cl
  have lns : (ns.map V.str).length = ns.length := List.length_map ..
  have pn2 := pf.n2
  have lyb := pk.length
  have mb : ∀ e ∈ bs, e.1 ∈ ns ∧ e.2 ∈ ns := fun e he => pf.mem e (sub e he)
  refine ⟨_, rfl, x, CV, dx, fs, _, rfl, y.o, hc, T.nV _ (by simp), y.f1, nb, _, rfl, Sx.sq (.inr y.n), fun J Gq g0 gE wk d0 hd0 => dc_run wk (fun H' e => gE [] H' (by simp) e) hd0 (Rm ns V.str) rfl (fun i u Ga Gb lt I yy => ?_) fun kvs G1 e1 hk1 r => ?_⟩
  · obtain ⟨rfl, hy⟩ := yy
    obtain ⟨z, rfl, hz, mz⟩ := at_str hy
    exact ⟨rfl, _, rfl, _, rfl, dm_push pf.nd hd0 I .rfl hz (by omega) rfl⟩
  have r : kvs = mk (ns.take (ns.map V.str).length) V.str := r
  rw [lns, List.take_of_length_le (Nat.le_refl _)] at r
  subst r
  refine ⟨_, rfl, kn, ys, rfl, Sx.sq (.inl (e1.at0 hkn)), fun J Gq g0 gE wk => ?_⟩
  refine for_it wk (fun i τ G => ∃ (d : Addr) (v3 v4 v5 v6 v7 : Option V), τ = [some (.ref x), some (.ref kn), some (.ref d), v3, v4, v5, v6, v7] ∧ ExtT (tabsT P1 P2) H G ∧ G d = some (.dK (mk ns fun z => .str (labF ns (bs.take i) z))))
    ⟨d0, _, _, _, _, _, rfl, .of tb e1, hk1⟩ (fun i τ G _ ⟨_, _, _, _, _, _, _, e, _⟩ => gE G fun o ho => by
      rw [e1.at0 hkn] at ho
      cases ho
      exact e.at_ hkn) (fun i u τ Ga Gb lt I yy => ?_) (fun τ Ga I => ?_)
  · obtain ⟨d, v3, v4, v5, v6, v7, rfl, e, hk⟩ := I
    obtain ⟨rfl, hy⟩ := yy
    have hei : bs[i]? = some bs[i] := List.getElem?_eq_getElem (by omega)
    generalize bs[i] = ed at hei
    obtain ⟨c', rfl, hcc⟩ := e.te (pair_at pk hy hei)
    obtain ⟨m1, m2⟩ := mb ed (List.mem_of_getElem? hei)
    have inL : ∀ z ∈ ns, labF ns (bs.take i) z ∈ ns := lab_in fun g hg => mb g (List.mem_of_mem_take hg)
    have hsn : labF ns (bs.take (i + 1)) = labS ns (labF ns (bs.take i)) ed := by rw [take_next hei, labF_snoc]
    generalize labF ns (bs.take i) = lab at hk inL hsn
    refine ⟨c', _, rfl, .inl (.inl hcc), rfl, _, _, rfl, _, _, rfl, rfl, ?_⟩
    refine ⟨_, rfl, _, rfl, d, _, rfl, dg_mk hk m1, _, rfl, _, rfl, d, _, rfl, dg_mk hk m2, by show 2 ≤ sizeLine; decide, fun p hp => ?_⟩
    have eP : ExtT (tabsT P1 P2) H (upd Gb p (.lst [.str (lab ed.1), .str (lab ed.2)])) := e.then0 (ext_new hp)
    refine ⟨p, x, dx, CV, rk, fs, _, _, _, _, _, rfl, upd_same, eP.t, rfl, eP.at_ y.o, hc, T.nV _ (by simp), y.f2, eP.at_ y.r, mk_val (inL _ m1), mk_val (inL _ m2), fun y1 y2 G2 p2 hcase eN tN hp2 => ?_⟩
    have e2 : ExtT (tabsT P1 P2) H G2 := eP.trans ⟨eN, tN⟩
    have e3 : ExtT (tabsT P1 P2) H (upd G2 p2 (.lst [.str y1, .str y2])) := e2.then0 (ext_new hp2)
    refine ⟨p2, _, rfl, .inl (.inl upd_same), rfl, _, _, rfl, _, _, rfl, rfl, ?_⟩
    have hk2 : G2 d = some (.dK (mk ns fun z => .str (lab z))) := eN _ _ ((ext_new (L := []) hp).at0 hk) fun _ z => by cases z
    have hk3 := (ext_new (L := []) (o := .lst [.str y1, .str y2]) hp2).at0 hk2
    revert e3 hk3
    generalize upd G2 p2 (.lst [.str y1, .str y2]) = G3
    intro e3 hk3
    have same : ∀ z, (if lab z = y2 then y1 else lab z) = labS ns lab ed z := fun z => by
      unfold labS
      rcases hcase with ⟨k, rfl, rfl⟩ | ⟨k, rfl, rfl⟩
      · have k : ((ns.idxOf (lab ed.1) : Nat) : Int) ≤ ((ns.idxOf (lab ed.2) : Nat) : Int) := k
        have k2 : ns.idxOf (lab ed.1) ≤ ns.idxOf (lab ed.2) := by omega
        rw [if_pos k2]
      · by_cases q : ns.idxOf (lab ed.1) ≤ ns.idxOf (lab ed.2)
        · rw [if_pos q]
          have k : ((ns.idxOf (lab ed.2) : Nat) : Int) ≤ ((ns.idxOf (lab ed.1) : Nat) : Int) := k
          have ei : ns.idxOf (lab ed.1) = ns.idxOf (lab ed.2) := by omega
          have l1 := List.idxOf_lt_length_of_mem (inL _ m1)
          have l2 := List.idxOf_lt_length_of_mem (inL _ m2)
          have g1 : ns[ns.idxOf (lab ed.1)] = lab ed.1 := List.getElem_idxOf l1
          have g2 : ns[ns.idxOf (lab ed.2)] = lab ed.2 := List.getElem_idxOf l2
          have es2 : lab ed.1 = lab ed.2 := by
            rw [← g1, ← g2]
            simp only [ei]
          rw [es2]
        · rw [if_neg q]
    refine ⟨_, rfl, x, CV, dx, fs, _, rfl, e3.at_ y.o, hc, T.nV _ (by simp), y.f1, nb, _, rfl, Sx.sq (.inr (e3.at_ y.n)), fun J3 Gq3 g03 gE3 wk3 D3 hD3 => ?_⟩
    refine dc_run wk3 (fun H' e => gE3 [] H' (by simp) e) hD3 (Rm ns fun z => .str (labF ns (bs.take (i + 1)) z)) rfl (fun k u Gc Gd lt3 I3 yy3 => ?_) fun kvs G4 e4 hk4 r4 => ?_
    · obtain ⟨rfl, hyy⟩ := yy3
      obtain ⟨z, rfl, hz, mz⟩ := at_str hyy
      refine ⟨rfl, _, rfl, _, rfl, _, rfl, d, _, rfl, dg_mk (I3.1.at0 hk3) mz, _, rfl, rfl, _, rfl, ?_⟩
      by_cases hl : lab z = y2
      · refine itB (decide_eq_true (by rw [hl])) ⟨_, rfl, dm_push pf.nd hD3 I3 .rfl hz (by omega) ?_⟩
        rw [hsn, ← same, if_pos hl]
      · refine itN (decide_eq_false fun q => hl (V.str.inj q)) ⟨_, rfl, _, rfl, d, _, rfl, dg_mk (I3.1.at0 hk3) mz, dm_push pf.nd hD3 I3 .rfl hz (by omega) ?_⟩
        rw [hsn, ← same, if_neg hl]
    · have r4 : kvs = mk (ns.take (ns.map V.str).length) _ := r4
      rw [lns, List.take_of_length_le (Nat.le_refl _)] at r4
      exact ⟨D3, _, _, _, _, _, rfl, e3.then0 e4, by rw [hk4, r4]⟩
  · obtain ⟨d, v3, v4, v5, v6, v7, rfl, e, hk⟩ := I
    rw [lyb, List.take_of_length_le (Nat.le_refl _)] at hk
    exact ⟨_, rfl, q Ga d e hk⟩
end
end K70

/-! K7K: lots. -/
namespace K70
open PySem PySem.Spec PyProof.Rows L2 LamX
theorem pi_seqK {X : Cx} {Kq : PySem.W.Frag} {tg l : Expr} {tl : TE} (hK : X.K = Kq) (hl : PE X l tl) : PI X tg l (iSeq Kq tl) := by
  subst hK
  exact pi_seq hl
/-- at b nothing but a table stood -/
def FrN (H : Hp) (b : Addr) : Prop := ∀ o, H b = some o → ∃ ps, o = .tbl ps
theorem FrN.of {T : List (Addr × PySem.Str)} {H G : Hp} {b : Addr} (e : ExtT T H G) (h : G b = none) : FrN H b := fun o ho => by
  by_cases q : ∃ ps, o = .tbl ps
  · exact q
  · have := e.n b o ho fun ps z => q ⟨ps, z⟩
    rw [h] at this
    cases this
theorem FrN.mono {H0 H : Hp} {b : Addr} (e : Ext [] H0 H) (h : FrN H b) : FrN H0 b := fun o ho => h o (e.at0 ho)
/-- lists of lists, all new -/
def LotsAt (H0 G : Hp) (d : Addr) (ll : List (List PySem.Str)) : Prop := FrN H0 d ∧ ∃ vs, G d = some (.lst vs) ∧ Paired (fun v (l : List PySem.Str) => ∃ b, v = V.ref b ∧ b ≠ d ∧ G b = some (.lst (l.map V.str)) ∧ FrN H0 b) vs ll
def lotsF (ns : List PySem.Str) (bs : List Ed) : List (List PySem.Str) := (ns.filter fun z => decide (labF ns bs z = z)).map fun f => ns.filter fun z => decide (labF ns bs z = f)
section
variable {P : Program} {w : World} {K : PySem.W.Frag} {mg : Str → Option Value} {base : Heap} {CV CG CB : Addr}
def spLotsBy (CV P1 P2 : Addr) : Sp := fun vs H Q _ => ∃ (v : V) (kn : Addr) (ys : List V) (ns : List PySem.Str) (es bs : List Ed) (hs : List Int), vs = [v, .ref kn] ∧ Vy CV H v ns es ∧ Pf ns es hs ∧ H kn = some (.lst ys) ∧ Paired (TupE H) ys bs ∧ (∀ e ∈ bs, e ∈ es) ∧ bs.length ≤ 500 ∧ Tabs (tabsT P1 P2) H ∧
  ∀ H' d, ExtT (tabsT P1 P2) H H' → LotsAt H H' d (lotsF ns bs) → Q (.ref d) H'
abbrev N_lots_by : List PySem.Str := ["valley", "roads", "heads", "firsts", "name", "first"]
theorem sc_lots_by : FnScope N_lots_by ["valley", "roads"] (defScope (topS 34)) := ⟨rfl, rfl, rfl, by decide +kernel, rfl, by decide +kernel, by decide +kernel⟩
theorem bb_lots_by : BindsBy "lots_by" (topS 34) ["valley", "roads"] := fun _ _ _ _ _ _ us hl => match us, hl with | [_, _], _ => rfl
theorem ok_lots_by (T : Tx P K mg CV CG CB) {P1 P2 : Addr} (D : Df K mg "lots_by" (topS 34)) (c_lots_behind : Cl P w K mg base CX0 3 "lots_behind" (spBehind CV P1 P2)) : Cl P w K mg base CX0 4 "lots_by" (spLotsBy CV P1 P2) := by
  refine D.cl0 sc_lots_by bb_lots_by (fun vs H Q E ⟨x, _, _, _, _, _, _, e, _⟩ => by rw [e]; rfl) fun f cdv A outer s H vs Q E hr h => ?_
  have nd := sc_lots_by.nd
  obtain ⟨v, kn, ys, ns, es, bs, hs, rfl, vy, pf, hkn, pk, sub, lb, tb, q⟩ := h
  refine ⟨_, (pss_cons (ps_set (i := 2) nd rfl (.inr rfl) (pe_k c_lots_behind hr pass0 (pa_cons (pv 0) (pa_cons (pv 1) pa_nil))))
  (pss_cons (ps_setLc (i := 3) (own := [("name", 4)]) (g := gName 4) rfl nd rfl rfl (sw_true rfl rfl rfl (by decide +kernel)) (pi_seq (pe_fld (pv 0) rfl)) (blkOk_by (N := N_lots_by) (sc := defScope (topS 34)) (by decide +kernel)) (fun _ _ _ _ _ => (pg_name (i := 4) nd rfl (.inl rfl))) (fun _ _ _ _ _ => (pts_one (pt_cmpR op_eq (pe_dget (hu_of hr) (pv 2) (pv 4) (fun _ _ => rfl)) (pv 4) (nomark _)))) (fun _ _ _ _ _ => (pv 4)))
  (pss_one (ps_ret (pe_lc (own := [("first", 5)]) (g := gName 5) (tt := tYes) rfl nd (pi_seq (pv 3)) (blkOk_by (N := N_lots_by) (sc := defScope (topS 34)) (by decide +kernel)) (fun _ _ _ _ _ => (pg_name (i := 5) nd rfl (.inr rfl))) (fun _ _ _ _ _ => pts_nil) (fun _ _ _ _ _ => (pe_lc (own := [("name", 4)]) (g := gName 4) rfl nd (pi_seqK (Kq := K) rfl (pe_fldK (Kq := K) rfl (pv 0) rfl)) (blkOk_by (N := N_lots_by) (sc := (relS (⟨.function, [(".0", .local), ("first", .cell), ("heads", .free), ("valley", .free)], false, false, []⟩ : Scope) (defScope (topS 34)))) (by decide +kernel)) (fun _ _ _ _ _ => (pg_name (i := 4) nd rfl (.inl rfl))) (fun _ _ _ _ _ => (pts_one (pt_cmpR op_eq (pe_dget (hu_of hr) (pv 2) (pv 4) (fun _ _ => rfl)) (pv 5) (nomark _)))) (fun _ _ _ _ _ => (pv 4))))))))), ?_⟩
  have vy0 := vy
  obtain ⟨x, dx, fs, nb, rk, rd, pl, ts, pkv, rfl, y⟩ := vy
  have hc : Cls K CV := T.iV.cl
  have lns : (ns.map V.str).length = ns.length := List.length_map ..
  have pn2 := pf.n2
  have mb : ∀ e ∈ bs, e.1 ∈ ns ∧ e.2 ∈ ns := fun e he => pf.mem e (sub e he)
  refine ⟨_, rfl, _, rfl, .ref x, kn, ys, ns, es, bs, hs, rfl, vy0, pf, hkn, pk, sub, lb, tb, fun H1 hd e1 hk1 => ?_⟩
  generalize hlab : labF ns bs = lab at hk1
  refine ⟨_, rfl, x, CV, dx, fs, _, rfl, e1.at_ y.o, hc, T.nV _ (by simp), y.f1, nb, _, rfl, Sx.sq (.inr (e1.at_ y.n)), fun J Gq g0 gE wk fd hfd => ?_⟩
  refine lc_run wk (fun H' e => gE [] H' (by simp) e) hfd (Rl ns fun z => if decide (lab z = z) = true then some (V.str z) else none) rfl (fun k u Ga Gb lt I yy => ?_) fun acc H2 e2 hacc rr => ?_
  · obtain ⟨rfl, hyy⟩ := yy
    obtain ⟨z, rfl, hz, mz⟩ := at_str hyy
    refine ⟨rfl, _, rfl, _, rfl, hd, _, rfl, dg_mk (I.1.at0 hk1) mz, _, rfl, rfl, _, rfl, ?_⟩
    by_cases h : lab z = z
    · exact itB (decide_eq_true (by rw [h])) ⟨_, rfl, lm_push hfd I .rfl hz (by omega) (by rw [decide_eq_true h]; rfl)⟩
    · exact itN (decide_eq_false fun q => h (V.str.inj q)) (lm_skip I .rfl hz (by rw [decide_eq_false h]; rfl))
  have rr : acc = (ns.take (ns.map V.str).length).filterMap (fun z => if decide (lab z = z) = true then some (V.str z) else none) := rr
  rw [lns, List.take_of_length_le (Nat.le_refl _), strs_map] at rr
  subst rr
  have e12 := e1.then0 e2
  have hk2 := e2.at0 hk1
  have lf : (ns.filter fun z => decide (lab z = z)).length ≤ 60 := Nat.le_trans (List.length_filter_le ..) pn2
  generalize hF : ns.filter (fun z => decide (lab z = z)) = fis at hacc lf
  refine ⟨_, rfl, fd, _, rfl, Sx.sq (.inl hacc), fun J2 Gq2 g02 gE2 wk2 d hd2 => ?_⟩
  have fd2 : FrN H d := FrN.of e12 hd2
  refine lc_run wk2 (fun H' e => gE2 [] H' (by simp) e) hd2 (fun k acc G => Paired (fun v (l : List PySem.Str) => ∃ b, v = V.ref b ∧ b ≠ d ∧ G b = some (.lst (l.map V.str)) ∧ FrN H b) acc ((fis.take k).map fun f => ns.filter fun z => decide (lab z = f))) .nil (fun k u Ga Gb lt I yy => ?_) fun acc H3 e3 hacc3 rr => ?_
  · obtain ⟨rfl, hyy⟩ := yy
    obtain ⟨z, rfl, hz, mz⟩ := at_str hyy
    obtain ⟨e0, acc, hac, la, pa⟩ := I
    refine ⟨rfl, ?_⟩
    refine ⟨_, rfl, x, CV, dx, fs, _, rfl, (e12.then0 e0).at_ y.o, hc, T.nV _ (by simp), y.f1, nb, _, rfl, Sx.sq (.inr ((e12.then0 e0).at_ y.n)), fun J3 Gq3 g03 gE3 wk3 b hb => ?_⟩
    refine lc_run wk3 (fun H' e => gE3 [] H' (by simp) e) hb (Rl ns fun z' => if decide (lab z' = z) = true then some (V.str z') else none) rfl (fun k2 u Gc Gd lt3 I3 yy3 => ?_) fun acc4 H4 e4 hacc4 rr4 => ?_
    · obtain ⟨rfl, hyy3⟩ := yy3
      obtain ⟨z', rfl, hz', mz'⟩ := at_str hyy3
      refine ⟨rfl, _, rfl, _, rfl, hd, _, rfl, dg_mk ((e0.trans I3.1).at0 hk2) mz', _, rfl, rfl, _, rfl, ?_⟩
      by_cases h : lab z' = z
      · exact itB (decide_eq_true (by rw [h])) ⟨_, rfl, lm_push hb I3 .rfl hz' (by omega) (by rw [decide_eq_true h]; rfl)⟩
      · exact itN (decide_eq_false fun q => h (V.str.inj q)) (lm_skip I3 .rfl hz' (by rw [decide_eq_false h]; rfl))
    · have rr4 : acc4 = (ns.take (ns.map V.str).length).filterMap (fun z' => if decide (lab z' = z) = true then some (V.str z') else none) := rr4
      rw [lns, List.take_of_length_le (Nat.le_refl _), strs_map] at rr4
      subst rr4
      refine lcp hd2 (e0.trans e4) (e4.at0 hac) la (by have : k < (fis.map V.str).length := lt; rw [List.length_map] at this; omega) ?_
      show Paired _ (acc ++ [V.ref b]) ((fis.take (k + 1)).map _)
      have bd : b ≠ d := fun q => by rw [q, hac] at hb; cases hb
      rw [take_next hz, List.map_append]
      refine pair_snoc (pair_map pa fun v l ⟨b', h1, h2, h3, h4⟩ => ⟨b', h1, h2, by rw [upd_ne h2]; exact e4.at0 h3, h4⟩) ⟨b, rfl, bd, by rw [upd_ne bd]; exact hacc4, FrN.of (e12.then0 e0) hb⟩
  · have rr : Paired _ acc ((fis.take (fis.map V.str).length).map fun f => ns.filter fun z => decide (lab z = f)) := rr
    rw [List.length_map, List.take_of_length_le (Nat.le_refl _)] at rr
    refine q H3 d (e12.then0 e3) ⟨fd2, acc, hacc3, ?_⟩
    unfold lotsF
    rw [hlab, hF]
    exact rr
def spLots (CV CG CB P1 P2 : Addr) : Sp := fun vs H Q E => ∃ v t, vs = [v, t] ∧ Tabs (tabsT P1 P2) H ∧ BgCs CV CG H v t (fun ns es bs => ∀ H' d, ExtT (tabsT P1 P2) H H' → LotsAt H H' d (lotsF ns bs) → Q (.ref d) H') (Refd CB "begun" t H E) E
abbrev N_lots : List PySem.Str := ["valley", "begun"]
theorem sc_lots : FnScope N_lots ["valley", "begun"] (defScope (topS 35)) := ⟨rfl, rfl, rfl, by decide +kernel, rfl, by decide +kernel, by decide +kernel⟩
theorem bb_lots : BindsBy "lots" (topS 35) ["valley", "begun"] := fun _ _ _ _ _ _ us hl => match us, hl with | [_, _], _ => rfl
theorem ok_lots (T : Tx P K mg CV CG CB) {P1 P2 : Addr} (D : Df K mg "lots" (topS 35)) (c_checked_begun : Cl P w K mg base (L2.CX P w) 4 "checked_begun" (spChecked CV CG CB)) (c_lots_by : Cl P w K mg base CX0 4 "lots_by" (spLotsBy CV P1 P2)) :
    Cl P w K mg base (L2.CX P w) 5 "lots" (spLots CV CG CB P1 P2) ∧ ClS P w K mg base (L2.CX P w) 5 "lots" "valley" "begun" (spLots CV CG CB P1 P2) := by
  refine D.clS sc_lots bb_lots (fun _ _ _ _ _ _ _ _ => rfl) (fun vs H Q E ⟨x, _, e, _⟩ => by rw [e]; rfl) fun f cdv A outer s H vs Q E hr h => ?_
  have nd := sc_lots.nd
  obtain ⟨v, t, rfl, tb, cs⟩ := h
  refine ⟨_, (pss_one (ps_ret (pe_k c_lots_by hr pass0 (pa_cons (pv 0) (pa_cons (pe_k c_checked_begun hr (passes_call (takes_of rfl rfl rfl rfl) fun _ _ _ _ h => h) (pa_cons (pv 0) (pa_cons (pv 1) pa_nil))) pa_nil))))), ?_⟩
  refine ⟨_, rfl, _, rfl, _, rfl, v, t, rfl, ?_⟩
  rcases cs with ⟨ns, es, hs, bs, vy, pf, kg, q⟩ | ⟨ns, es, hs, vy, pf, ko, q⟩ | h
  · obtain ⟨sub, lb⟩ := good_sub kg
    refine .inl ⟨ns, es, hs, bs, vy, pf, kg, fun H1 p ys e1 f1 h1 pk => ?_⟩
    refine ⟨v, p, ys, ns, es, bs, hs, rfl, vy.ext0 e1, pf, h1, pk, sub, lb, tb.ext fun b o h => e1.at0 h, fun H2 d e2 ⟨l1, vs, l2, l3⟩ => q H2 d ((ExtT.of tb e1).trans e2) ⟨l1.mono e1, vs, l2, pair_map l3 fun u l ⟨b, z1, z2, z3, z4⟩ => ⟨b, z1, z2, z3, z4.mono e1⟩⟩⟩
  · exact .inr (.inl ⟨ns, es, hs, vy, pf, ko, q⟩)
  · exact .inr (.inr h)
end
end K70

/-! K7L: what is handed, what is begun. -/
namespace K70
open PySem PySem.Spec PyProof.Rows L2 LamX
section
variable {P : Program} {w : World} {K : PySem.W.Frag} {mg : Str → Option Value} {base : Heap} {CV CG CB : Addr}
abbrev Flp (g e : Ed) : Prop := g = e ∨ g = (e.2, e.1)
def spHanded : Sp := fun vs H Q _ => ∃ (a r : Addr) (L : List Addr) (xs : List V) (bs : List Ed), vs = [.ref a, .ref r] ∧ a ∈ L ∧ (∀ b ∈ L, ∃ l, H b = some (.lst l)) ∧ Src H a ∧ r ≠ a ∧ H r = some (.lst xs) ∧ Paired (TupE H) xs bs ∧ bs.length ≤ 500 ∧
  ∀ H' t gs, Ext [a] H H' → Src H' a → Paired Flp gs bs → Up (Up AtmA) L H' t (gs.map eV) → Q t H'
theorem tup_upL {L : List Addr} {H : Hp} {x : V} {e : Ed} (hL : ∀ b ∈ L, ∃ l, H b = some (.lst l)) (h : TupE H x e) : Up AtmA L H x (eV e) := by
  obtain ⟨b, rfl, g⟩ := h
  refine ⟨b, eV e, rfl, fun m => ?_, .inr g, by show 2 ≤ 1000; decide, atm_mk fun k hk => ?_⟩
  · obtain ⟨l, hl⟩ := hL b m
    rw [g] at hl
    cases hl
  · simp only [List.mem_cons, List.not_mem_nil, or_false] at hk
    rcases hk with rfl | rfl
    · exact .inl ⟨_, rfl⟩
    · exact .inl ⟨_, rfl⟩
/-- lists stay lists -/
theorem Src.lists {H H' : Hp} {a : Addr} {L : List Addr} (e : Ext [a] H H') (sr : Src H' a) (h : ∀ b ∈ L, ∃ l, H b = some (.lst l)) : ∀ b ∈ L, ∃ l, H' b = some (.lst l) := fun b hb => by
  by_cases q : b = a
  · obtain ⟨_, _, _, y⟩ := sr
    rw [q]
    exact ⟨_, y⟩
  · obtain ⟨l, hl⟩ := h b hb
    exact ⟨l, e.at1 q hl⟩
abbrev N__law_f_handed : List PySem.Str := ["_law_source_here", "_law_roads", "_law_road"]
theorem sc__law_f_handed : FnScope N__law_f_handed ["_law_source_here", "_law_roads"] (defScope (topS 48)) := ⟨rfl, rfl, rfl, by decide +kernel, rfl, by decide +kernel, by decide +kernel⟩
theorem bb__law_f_handed : BindsBy "_law_f_handed" (topS 48) ["_law_source_here", "_law_roads"] := fun _ _ _ _ _ _ us hl => match us, hl with | [_, _], _ => rfl
theorem pe_backK {X : Cx} {Kq : PySem.W.Frag} {e : Expr} {te : TE} {k : Nat} {p1 p2 p3 pos : Pos} (hK : X.K = Kq) (he : PE X e te) : PE X (.Subscript e (.Slice none none (some (.UnaryOp .USub (.Constant (.int 1) k p1) p2)) p3) pos) (tBack Kq te) := by
  subst hK
  exact pe_back he
theorem ok_handed (D : Df K mg "_law_f_handed" (topS 48)) (c__law_draw : Cl P w K mg base CX0 1 "_law_draw" spDraw) (c_lo2 : Cl P w K mg base CX0 3 "_law_loose" (spLoG (Up (Up AtmA)))) : Cl P w K mg base CX0 4 "_law_f_handed" spHanded := by
  refine D.cl0 sc__law_f_handed bb__law_f_handed (fun vs H Q E ⟨x, _, _, _, _, e, _⟩ => by rw [e]; rfl) fun f cdv A outer s H vs Q E hr h => ?_
  have nd := sc__law_f_handed.nd
  obtain ⟨a, r, L, xs, bs, rfl, aL, hL, ha, nr, hr2, pr, lb, q⟩ := h
  refine ⟨_, (pss_one (ps_ret (pe_k c_lo2 hr pass0 (pa_cons (pv 0) (pa_cons (pe_lc (own := [("_law_road", 2)]) (g := gName 2) (tt := tYes) rfl nd (pi_seq (pv 1)) (blkOk_by (N := N__law_f_handed) (sc := defScope (topS 48)) (by decide +kernel)) (fun _ _ _ _ _ => (pg_name (i := 2) nd rfl (.inl rfl))) (fun _ _ _ _ _ => pts_nil) (fun _ _ _ _ _ => (pe_ifExp (pt_cmpR op_eq (pe_k c__law_draw hr pass0 (pa_cons (pv 0) (pa_cons pe_int pa_nil))) pe_int (nomark _)) (pv 2) (pe_backK (Kq := K) rfl (pv 2))))) pa_nil))))), ?_⟩
  have lxb := pr.length
  refine ⟨_, rfl, _, rfl, r, xs, rfl, Sx.sq (.inl hr2), fun J Gq g0 gE wk D2 hD2 => ?_⟩
  have nD : D2 ≠ a := fun z => by rw [z] at hD2; exact ha.ne hD2
  refine lc_it wk (fun i G => Ext [a] H G ∧ Src G a ∧ ∃ acc gs, G D2 = some (.lst acc) ∧ Paired (TupE G) acc gs ∧ Paired Flp gs (bs.take i) ∧ acc.length = i) ⟨ext_new hD2, ha.off nD, [], [], upd_same, .nil, .nil, rfl⟩ (fun i G _ p => gE [a] G (by simpa using nr) p.1) (fun i y Ga Gb lt I yy => ?_) fun G I => ?_
  · obtain ⟨e, sr, acc, gs, hac, pt, pg, la⟩ := I
    obtain ⟨rfl, hy⟩ := yy
    have hei : bs[i]? = some bs[i] := List.getElem?_eq_getElem (by omega)
    generalize bs[i] = ed at hei
    refine ⟨rfl, _, rfl, a, 2, rfl, sr, by decide, by decide, fun H2 d e2 sr2 _ _ => ⟨rfl, _, rfl, ?_⟩⟩
    have hac2 := e2.at1 nD hac
    obtain ⟨c, rfl, hc⟩ := ((pair_at pr hy hei).ext e ha).ext e2 sr
    have pt2 := pair_map pt fun u v z => z.ext e2 sr
    have fin : ∀ H3 b g, Ext [] H2 H3 → H3 b = some (.tup [.str g.1, .str g.2]) → Flp g ed → ∃ acc', H3 D2 = some (.lst acc') ∧ acc'.length < sizeLine ∧ Ext [a] H (upd H3 D2 (.lst (acc' ++ [V.ref b]))) ∧ Src (upd H3 D2 (.lst (acc' ++ [V.ref b]))) a ∧
        ∃ acc2 gs, (upd H3 D2 (.lst (acc' ++ [V.ref b]))) D2 = some (.lst acc2) ∧ Paired (TupE (upd H3 D2 (.lst (acc' ++ [V.ref b])))) acc2 gs ∧ Paired Flp gs (bs.take (i + 1)) ∧ acc2.length = i + 1 := fun H3 b g e3 hb fl => by
      have h3 := e3.at0 hac2
      refine ⟨acc, h3, lenZ (by omega), ((e.trans e2).trans e3.of0).put hD2, (sr2.ext e3).off nD, _, gs ++ [g], upd_same, pair_snoc (pair_map pt2 fun u v z => (z.ext0 e3).updL h3) (TupE.updL h3 ⟨b, rfl, hb⟩), ?_, by simp [la]⟩
      rw [take_next hei]
      exact pair_snoc pg fl
    refine ite2 (fun _ => ⟨_, rfl, fin H2 c ed .rfl hc (.inl rfl)⟩) fun _ => ?_
    exact ⟨_, rfl, c, _, _, rfl, .inl (.inl hc), fun p hp => fin _ p (ed.2, ed.1) (ext_new hp) upd_same (.inr rfl)⟩
  · obtain ⟨e, sr, acc, gs, hac, pt, pg, la⟩ := I
    rw [List.take_of_length_le (by omega)] at pg
    have hL2 := sr.lists e hL
    have lpg := pg.length
    have nDL : D2 ∉ L := fun m => by
      obtain ⟨l, hl⟩ := hL D2 m
      rw [hD2] at hl
      cases hl
    refine ⟨a, L, .ref D2, gs.map eV, rfl, aL, fun b hb => by obtain ⟨l, hl⟩ := hL2 b hb; rw [hl]; simp, sr, ⟨D2, acc, rfl, nDL, .inl hac, by omega, pair_mapL (fun v e h => tup_upL hL2 h) pt⟩, fun H' y e' sr' up => q H' y gs (e.trans e') sr' pg up⟩
def spBegun : Sp := fun vs H Q _ => ∃ (a : Addr) (f : V) (ns : List PySem.Str) (es : List Ed) (hs : List Int), vs = [.ref a, f] ∧ Src H a ∧ Fo a H f ns es hs ∧ Pf ns es hs ∧
  ∀ H' p xs bs, Ext [a] H H' → Src H' a → H p = none → H' p = some (.lst xs) → Paired (TupE H') xs bs → bs.Nodup → (∀ e ∈ bs, e ∈ es) → bs.length ≤ es.length → Q (.ref p) H'
theorem Acy.nodup {es : List Ed} (h : Acy es) : es.Nodup := by
  rw [List.nodup_iff_pairwise_ne, List.pairwise_iff_getElem]
  intro i j hi hj lt e
  have := h.uniq (List.getElem?_eq_getElem hi) (List.getElem?_eq_getElem hj) (.inl e.symm)
  omega
theorem paired_take {α β : Type} {F : α → β → Prop} {xs : List α} {ys : List β} (h : Paired F xs ys) : ∀ k : Nat, Paired F (xs.take k) (ys.take k) := by
  induction h with
  | nil => intro k; simp; exact .nil
  | cons r _ ih =>
    intro k
    cases k with
    | zero => exact .nil
    | succ k => exact .cons r (ih k)
abbrev N__law_f_begun : List PySem.Str := ["_law_source_here", "_law_form"]
theorem sc__law_f_begun : FnScope N__law_f_begun ["_law_source_here", "_law_form"] (defScope (topS 50)) := ⟨rfl, rfl, rfl, by decide +kernel, rfl, by decide +kernel, by decide +kernel⟩
theorem bb__law_f_begun : BindsBy "_law_f_begun" (topS 50) ["_law_source_here", "_law_form"] := fun _ _ _ _ _ _ us hl => match us, hl with | [_, _], _ => rfl
theorem ok_begun (T : Tx P K mg CV CG CB) (D : Df K mg "_law_f_begun" (topS 50)) (c__law_draw : Cl P w K mg base CX0 1 "_law_draw" spDraw) (c__law_mixed : Cl P w K mg base CX0 2 "_law_mixed" spMixed) : Cl P w K mg base CX0 3 "_law_f_begun" spBegun := by
  refine D.cl0 sc__law_f_begun bb__law_f_begun (fun vs H Q E ⟨x, _, _, _, _, e, _⟩ => by rw [e]; rfl) fun f cdv A outer s H vs Q E hr h => ?_
  have nd := sc__law_f_begun.nd
  obtain ⟨a, f, ns, es, hs, rfl, ha, fo, pf, q⟩ := h
  refine ⟨_, (pss_one (ps_ret (pe_slice sl_list (pe_k c__law_mixed hr pass0 (pa_cons (pv 0) (pa_cons (pe_ix ix_seq (pv 1) pe_int (fun _ _ => rfl)) pa_nil))) po_none (po_some (pe_k c__law_draw hr pass0 (pa_cons (pv 0) (pa_cons (pe_op op_add (pe_callB call_len_seq (by rfl) T.len bi_len (pa_cons (pe_ix ix_seq (pv 1) pe_int (fun _ _ => rfl)) pa_nil)) pe_int) pa_nil))))))), ?_⟩
  obtain ⟨fa, n, r, hh, rs, rfl, na1, na2, na3, y⟩ := fo
  have pel := pf.el
  have pn2 := pf.n2
  have lrs := y.p.length
  refine ⟨_, rfl, _, rfl, ix_at (j := 1) (.inr y.t) rfl ⟨a, r, rs, rfl, ha, .inl y.r, na2, by omega, fun H1 p ys e1 sr1 f1 h1 pm => ?_⟩⟩
  obtain ⟨zs, pz, pt⟩ := paired_perm pm.symm (pair_map y.p fun u v z => z.ext e1 ha)
  have np : p ≠ a := fun z => by rw [z] at f1; exact ha.ne f1
  have t1 := ha.off1 e1 y.t fun _ z => by cases z
  refine ⟨_, rfl, _, rfl, ix_at (j := 1) (.inr t1) rfl ⟨r, rs, rfl, .inl (.inl (.inl (e1.at1 na2 y.r))), _, _, rfl, rfl, a, _, rfl, sr1, by omega, by omega, fun H2 d e2 sr2 d0 d1 => ?_⟩⟩
  obtain ⟨k, rfl⟩ := Int.eq_ofNat_of_zero_le d0
  refine ⟨_, rfl, p, ys, rfl, .inl (.inl (e2.at1 np h1)), fun p2 hp2 => ?_⟩
  have n2 : p2 ≠ a := fun z => by rw [z] at hp2; exact sr2.ne hp2
  have e12 := e1.trans e2
  have eS : Ext [] H2 (upd H2 p2 (.lst (cutV ys none (some ((k : Nat) : Int))))) := ext_new hp2
  refine q _ p2 (ys.take k) (zs.take k) (e12.trans eS.of0) (sr2.ext eS) (e12.free1 n2 hp2) (by rw [cut_nat]; exact upd_same) (paired_take (pair_map pt fun u v z => (z.ext e2 sr1).ext0 eS) k) ((List.take_sublist _ _).nodup (pz.nodup_iff.mpr pf.acy.nodup)) (fun e he => pz.mem_iff.mp (List.mem_of_mem_take he)) ?_
  rw [List.length_take, pz.length_eq]
  omega
def spPut : Sp := fun vs H Q _ => ∃ (h o : Addr) (l xs : List V), vs = [.ref h, .ref o] ∧ h ≠ o ∧ H h = some (.lst l) ∧ H o = some (.lst xs) ∧ xs.length ≤ 5000 ∧ ∀ H', Ext [h] H H' → H' h = some (.lst xs) → Q (.ref h) H'
abbrev N__law_f_put : List PySem.Str := ["_law_held", "_law_other"]
theorem sc__law_f_put : FnScope N__law_f_put ["_law_held", "_law_other"] (defScope (topS 55)) := ⟨rfl, rfl, rfl, by decide +kernel, rfl, by decide +kernel, by decide +kernel⟩
theorem bb__law_f_put : BindsBy "_law_f_put" (topS 55) ["_law_held", "_law_other"] := fun _ _ _ _ _ _ us hl => match us, hl with | [_, _], _ => rfl
theorem ok_put (T : Tx P K mg CV CG CB) (D : Df K mg "_law_f_put" (topS 55)) : Cl P w K mg base CX0 1 "_law_f_put" spPut := by
  refine D.cl0 sc__law_f_put bb__law_f_put (fun vs H Q E ⟨x, _, _, _, e, _⟩ => by rw [e]; rfl) fun f cdv A outer s H vs Q E hr hh => ?_
  have nd := sc__law_f_put.nd
  obtain ⟨h, o, l, xs, rfl, ne, hh, ho, lx, q⟩ := hh
  refine ⟨_, (pss_cons (ps_expr (pe_bm0 PySem.F.plainAttrs_list PySem.F.slot_list_clear PySem.F.type_list_clear mt_clear (pv 0)))
  (pss_cons (ps_if (pt_val (pe_callB call_isi (by rfl) T.isinstance bi_isinstance (pa_cons (pv 0) (pa_cons (pe_bltn (v := .ty "dict") (by rfl) T.dict bi_dict rfl) pa_nil)))) (pss_one ps_never) (pss_one (ps_expr (pe_bm PySem.F.plainAttrs_list PySem.F.slot_list_extend PySem.F.type_list_extend mt_extend (pv 0) (pa_cons (pv 1) pa_nil)))))
  (pss_one (ps_ret (pv 0))))), ?_⟩
  refine ⟨_, rfl, tyl hh, ?_⟩
  refine ⟨h, l, rfl, rfl, hh, ?_⟩
  refine isi_v (c := "dict") false rfl (.lst upd_same) ⟨_, rfl, ?_⟩
  refine ⟨_, rfl, tyl upd_same, _, rfl, h, o, [], xs, rfl, rfl, upd_same, by rw [upd_ne (Ne.symm ne)]; exact ho, Nat.le_of_lt (lenZ (by simp; omega)), _, rfl, ?_⟩
  exact q _ ((Ext.rfl.putL (by simp)).putL (by simp)) upd_same
end
end K70

/-! K7M: the plain law: lots by joining are lots by labels. -/
namespace K70
open PySem PySem.Spec PyProof.Rows L2 LamX
theorem len_sub {α : Type} [BEq α] [LawfulBEq α] : ∀ {l m : List α}, l.Nodup → (∀ x ∈ l, x ∈ m) → l.length ≤ m.length
  | [], _, _, _ => Nat.zero_le _
  | x :: l, m, nd, h => by
    have nd := List.nodup_cons.mp nd
    have hx := h x (by simp)
    have ih := len_sub (l := l) (m := m.erase x) nd.2 fun y hy => (List.mem_erase_of_ne (fun e => nd.1 (by rw [← e]; exact hy))).mpr (h y (List.mem_cons_of_mem _ hy))
    rw [List.length_erase_of_mem hx] at ih
    have := List.length_pos_of_mem hx
    rw [List.length_cons]
    omega
theorem Acy.sub {es bs : List Ed} (h : Acy es) (nd : bs.Nodup) (s : ∀ e ∈ bs, e ∈ es) : Acy bs := fun l e r eq c => by
  obtain ⟨l', r', e'⟩ := List.append_of_mem (s e (by rw [eq]; simp))
  refine h l' e r' e' (c.mono fun x hx => ?_)
  have ne : x ≠ e := fun z => by
    rw [eq] at nd
    obtain ⟨_, n2, n3⟩ := List.nodup_append.mp nd
    rcases List.mem_append.mp hx with m | m
    · exact n3 x m e (by simp) z
    · exact (List.nodup_cons.mp n2).1 (by rw [← z]; exact m)
  have hm := s x (by
    rw [eq]
    rcases List.mem_append.mp hx with m | m
    · exact List.mem_append_left _ m
    · exact List.mem_append_right _ (List.mem_cons_of_mem _ m))
  rw [e'] at hm
  rcases List.mem_append.mp hm with m | m
  · exact List.mem_append_left _ m
  · exact List.mem_append_right _ ((List.mem_cons.mp m).resolve_left ne)
def jStep (J : PySem.Str → List PySem.Str) (e : Ed) : PySem.Str → List PySem.Str := fun z => if z ∈ J e.1 ++ J e.2 then J e.1 ++ J e.2 else J z
def jRun (bs : List Ed) : PySem.Str → List PySem.Str := bs.foldl jStep fun z => [z]
theorem jRun_snoc {l : List Ed} {e : Ed} : jRun (l ++ [e]) = jStep (jRun l) e := by
  unfold jRun
  rw [List.foldl_append]
  rfl
structure JL (ns : List PySem.Str) (l : List Ed) (J : PySem.Str → List PySem.Str) (h : PySem.Str → PySem.Str) : Prop where
  m : ∀ x ∈ ns, ∀ y, y ∈ J x ↔ y ∈ ns ∧ h y = h x
  i : ∀ x ∈ ns, h x ∈ ns ∧ h (h x) = h x ∧ ns.idxOf (h x) ≤ ns.idxOf x
  n : ∀ x ∈ ns, (J x).Nodup
  c : ∀ x ∈ ns, ∀ y ∈ ns, h x = h y → Cn l x y
theorem JL.init {ns : List PySem.Str} : JL ns [] (fun z => [z]) fun z => z :=
  ⟨fun x hx y => ⟨fun q => by rw [List.mem_singleton.mp q]; exact ⟨hx, rfl⟩, fun q => by rw [show y = x from q.2]; simp⟩, fun x hx => ⟨hx, rfl, Nat.le_refl _⟩, fun x _ => by simp, fun x _ y _ q => by rw [show x = y from q]; exact .refl _⟩
theorem JL.step {ns : List PySem.Str} {l : List Ed} {J : PySem.Str → List PySem.Str} {h : PySem.Str → PySem.Str} {e : Ed} (s : JL ns l J h) (m1 : e.1 ∈ ns) (m2 : e.2 ∈ ns) (nc : ¬ Cn l e.1 e.2) : JL ns (l ++ [e]) (jStep J e) (labS ns h e) := by
  have hne : h e.1 ≠ h e.2 := fun z => nc (s.c _ m1 _ m2 z)
  -- the two labels by their ranks
  obtain ⟨f, g, fg, hfg, hh⟩ : ∃ f g, ((f = h e.1 ∧ g = h e.2) ∨ (f = h e.2 ∧ g = h e.1)) ∧ ns.idxOf f ≤ ns.idxOf g ∧ ∀ z, labS ns h e z = if h z = g then f else h z := by
    unfold labS
    by_cases q : ns.idxOf (h e.1) ≤ ns.idxOf (h e.2)
    · exact ⟨_, _, .inl ⟨rfl, rfl⟩, q, fun z => by rw [if_pos q]⟩
    · exact ⟨_, _, .inr ⟨rfl, rfl⟩, by omega, fun z => by rw [if_neg q]⟩
  have nfg : f ≠ g := by
    rcases fg with ⟨rfl, rfl⟩ | ⟨rfl, rfl⟩
    · exact hne
    · exact Ne.symm hne
  have hf : f ∈ ns ∧ h f = f := by
    rcases fg with ⟨rfl, _⟩ | ⟨rfl, _⟩
    · exact ⟨(s.i _ m1).1, (s.i _ m1).2.1⟩
    · exact ⟨(s.i _ m2).1, (s.i _ m2).2.1⟩
  have both : ∀ y, y ∈ J e.1 ++ J e.2 ↔ y ∈ ns ∧ (h y = f ∨ h y = g) := fun y => by
    rw [List.mem_append, s.m _ m1, s.m _ m2]
    rcases fg with ⟨rfl, rfl⟩ | ⟨rfl, rfl⟩
    · exact ⟨fun q => q.elim (fun q => ⟨q.1, .inl q.2⟩) fun q => ⟨q.1, .inr q.2⟩, fun q => q.2.elim (fun z => .inl ⟨q.1, z⟩) fun z => .inr ⟨q.1, z⟩⟩
    · exact ⟨fun q => q.elim (fun q => ⟨q.1, .inr q.2⟩) fun q => ⟨q.1, .inl q.2⟩, fun q => q.2.elim (fun z => .inr ⟨q.1, z⟩) fun z => .inl ⟨q.1, z⟩⟩
  have lab' : ∀ z, labS ns h e z = f ↔ h z = f ∨ h z = g := fun z => by
    rw [hh]
    by_cases q : h z = g
    · rw [if_pos q]; exact ⟨fun _ => .inr q, fun _ => rfl⟩
    · rw [if_neg q]; exact ⟨.inl, fun y => y.resolve_right q⟩
  refine ⟨fun x hx y => ?_, fun x hx => ?_, fun x hx => ?_, fun x hx y hy q => ?_⟩
  · show y ∈ (if x ∈ J e.1 ++ J e.2 then J e.1 ++ J e.2 else J x) ↔ _
    by_cases q : x ∈ J e.1 ++ J e.2
    · rw [if_pos q, both y, (lab' x).mpr ((both x).mp q).2, lab' y]
    · rw [if_neg q, s.m x hx]
      have nx : ¬ (h x = f ∨ h x = g) := fun z => q ((both x).mpr ⟨hx, z⟩)
      have ex : labS ns h e x = h x := by rw [hh, if_neg fun z => nx (.inr z)]
      rw [ex]
      refine and_congr_right fun hy => ?_
      rw [hh]
      by_cases z : h y = g
      · rw [if_pos z]
        exact ⟨fun w => absurd (.inr (w.symm.trans z)) nx, fun w => absurd (.inl w.symm) nx⟩
      · rw [if_neg z]
  · obtain ⟨i1, i2, i3⟩ := s.i x hx
    rw [hh x]
    by_cases q : h x = g
    · rw [if_pos q]
      refine ⟨hf.1, (lab' f).mpr (.inl hf.2), Nat.le_trans hfg (by rw [← q]; exact i3)⟩
    · rw [if_neg q]
      refine ⟨i1, by rw [hh, i2, if_neg q], i3⟩
  · show (if x ∈ J e.1 ++ J e.2 then J e.1 ++ J e.2 else J x).Nodup
    split
    · refine List.nodup_append.mpr ⟨s.n _ m1, s.n _ m2, fun a ha b hb z => hne ?_⟩
      have h1 := ((s.m _ m1 a).mp ha).2
      have h2 := ((s.m _ m2 b).mp hb).2
      rw [z] at h1
      exact h1.symm.trans h2
    · exact s.n x hx
  · have up : ∀ {a b}, Cn l a b → Cn (l ++ [e]) a b := fun z => z.mono fun g hg => List.mem_append_left _ hg
    have me : (e.1, e.2) ∈ l ++ [e] := by simp
    have cfg : ∀ a ∈ ns, ∀ b ∈ ns, h a = f → h b = g → Cn (l ++ [e]) a b := fun a ha b hb h1 h2 => by
      rcases fg with ⟨q1, q2⟩ | ⟨q1, q2⟩
      · exact ((up (s.c a ha _ m1 (h1.trans q1))).trans (.fwd me (.refl _))).trans (up (s.c _ m2 b hb (q2.symm.trans h2.symm)))
      · exact ((up (s.c a ha _ m2 (h1.trans q1))).trans (.bwd me (.refl _))).trans (up (s.c _ m1 b hb (q2.symm.trans h2.symm)))
    rw [hh, hh] at q
    by_cases h1 : h x = g
    · by_cases h2 : h y = g
      · exact up (s.c x hx y hy (h1.trans h2.symm))
      · rw [if_pos h1, if_neg h2] at q
        exact (cfg y hy x hx q.symm h1).symm
    · by_cases h2 : h y = g
      · rw [if_neg h1, if_pos h2] at q
        exact cfg x hx y hy q h2
      · rw [if_neg h1, if_neg h2] at q
        exact up (s.c x hx y hy q)
theorem jl_run {ns : List PySem.Str} {bs : List Ed} (acy : Acy bs) (mem : ∀ e ∈ bs, e.1 ∈ ns ∧ e.2 ∈ ns) : ∀ i, i ≤ bs.length → JL ns (bs.take i) (jRun (bs.take i)) (labF ns (bs.take i)) := fun i => by
  induction i with
  | zero => exact fun _ => JL.init
  | succ i ih =>
    intro le
    have hi : bs[i]? = some bs[i] := List.getElem?_eq_getElem (by omega)
    have sp : bs = bs.take i ++ bs[i] :: bs.drop (i + 1) := by rw [List.getElem_cons_drop, List.take_append_drop]
    have m := mem _ (List.mem_of_getElem? hi)
    have st := (ih (by omega)).step m.1 m.2 (acy.step sp)
    rw [take_next hi, jRun_snoc, labF_snoc]
    exact st
/-! ### the lots, as the law writes them -/
abbrev jPart (ns : List PySem.Str) (J : PySem.Str → List PySem.Str) (x : PySem.Str) : List PySem.Str := ns.filter fun z => decide (z ∈ J x)
abbrev jOne (ns : List PySem.Str) (J : PySem.Str → List PySem.Str) (x : PySem.Str) : List (List PySem.Str) := if (jPart ns J x).head? = some x then [jPart ns J x] else []
def lotsL (ns : List PySem.Str) (bs : List Ed) : List (List PySem.Str) := (ns.map fun x => jOne ns (jRun bs) x).flatten
theorem idx_ne {ns : List PySem.Str} {a m : PySem.Str} (h : a ≠ m) : (a :: ns).idxOf m = ns.idxOf m + 1 := by
  rw [List.idxOf_cons, show (a == m) = false from beq_eq_false_iff_ne.mpr h]
  rfl
theorem min_head : ∀ {ns : List PySem.Str} {p : PySem.Str → Bool} {m : PySem.Str}, m ∈ ns → p m = true → (∀ y ∈ ns, p y = true → ns.idxOf m ≤ ns.idxOf y) → (ns.filter p).head? = some m
  | [], _, _, h, _, _ => by cases h
  | a :: ns, p, m, hm, pm, h => by
    by_cases pa : p a = true
    · have := h a (by simp) pa
      rw [List.idxOf_cons_self] at this
      have e : a = m := by
        by_cases q : a = m
        · exact q
        · rw [idx_ne q] at this
          omega
      rw [List.filter_cons, if_pos pa, e]
      rfl
    · have nm : a ≠ m := fun q => pa (by rw [q]; exact pm)
      rw [List.filter_cons, if_neg pa]
      refine min_head ((List.mem_cons.mp hm).resolve_left (Ne.symm nm)) pm fun y hy py => ?_
      have ny : a ≠ y := fun q => pa (by rw [q]; exact py)
      have := h y (List.mem_cons_of_mem _ hy) py
      rw [idx_ne nm, idx_ne ny] at this
      omega
theorem lots_eq {ns : List PySem.Str} {bs : List Ed} (acy : Acy bs) (mem : ∀ e ∈ bs, e.1 ∈ ns ∧ e.2 ∈ ns) : lotsL ns bs = lotsF ns bs := by
  have s := jl_run acy mem bs.length (Nat.le_refl _)
  rw [List.take_of_length_le (Nat.le_refl _)] at s
  have part : ∀ x ∈ ns, jPart ns (jRun bs) x = ns.filter fun z => decide (labF ns bs z = labF ns bs x) := fun x hx => List.filter_congr fun z hz => by
    have := s.m x hx z
    by_cases q : labF ns bs z = labF ns bs x
    · rw [decide_eq_true (this.mpr ⟨hz, q⟩), decide_eq_true q]
    · rw [decide_eq_false (fun w => q (this.mp w).2), decide_eq_false q]
  have head : ∀ x ∈ ns, (jPart ns (jRun bs) x).head? = some (labF ns bs x) := fun x hx => by
    rw [part x hx]
    obtain ⟨i1, i2, _⟩ := s.i x hx
    refine min_head i1 (decide_eq_true i2) fun y hy py => ?_
    have py : labF ns bs y = labF ns bs x := of_decide_eq_true py
    rw [← py]
    exact (s.i y hy).2.2
  have one : ∀ x ∈ ns, jOne ns (jRun bs) x = if labF ns bs x = x then [ns.filter fun z => decide (labF ns bs z = x)] else [] := fun x hx => by
    show (if (jPart ns (jRun bs) x).head? = some x then [jPart ns (jRun bs) x] else []) = _
    rw [head x hx, part x hx]
    by_cases q : labF ns bs x = x
    · rw [if_pos (by rw [q]), if_pos q, q]
    · rw [if_neg (fun z => q (Option.some.inj z)), if_neg q]
  unfold lotsL lotsF
  have key : ∀ l : List PySem.Str, (∀ x ∈ l, x ∈ ns) → (l.map fun x => jOne ns (jRun bs) x).flatten = (l.filter fun z => decide (labF ns bs z = z)).map fun f => ns.filter fun z => decide (labF ns bs z = f) := fun l => by
    induction l with
    | nil => exact fun _ => rfl
    | cons x l ih =>
      intro h
      have ih := ih fun y hy => h y (List.mem_cons_of_mem _ hy)
      rw [List.map_cons, List.flatten_cons, ih, one x (h x (by simp)), List.filter_cons]
      by_cases q : labF ns bs x = x
      · rw [if_pos q, if_pos (decide_eq_true q)]
        rfl
      · rw [if_neg q, if_neg (by simpa using q)]
        rfl
  exact key ns fun x hx => hx
end K70

/-! K7N: the law's lots. -/
namespace K70
open PySem PySem.Spec PyProof.Rows L2 LamX
/-! ### lists of pairs, dicts of them -/
theorem mk_take1 {ns : List PySem.Str} {g : PySem.Str → V} {i : Nat} {z : PySem.Str} (h : ns[i]? = some z) : mk (ns.take (i + 1)) g = mk (ns.take i) g ++ [(.inr z, g z)] := by
  rw [take_next h]
  exact List.map_append
theorem mergeK_snoc (acc more : List (Key × V)) (p : Key × V) : mergeK acc (more ++ [p]) = putK (mergeK acc more) p.1 p.2 := by
  unfold mergeK
  rw [List.foldl_append]
  rfl
theorem merge_mk {ns : List PySem.Str} {g : PySem.Str → V} (nd : ns.Nodup) : ∀ i, i ≤ ns.length → mergeK [] (mk (ns.take i) g) = mk (ns.take i) g := fun i => by
  induction i with
  | zero => exact fun _ => rfl
  | succ i ih =>
    intro le
    have hi : ns[i]? = some ns[i] := List.getElem?_eq_getElem (by omega)
    generalize ns[i] = y at hi
    rw [mk_take1 hi, mergeK_snoc, ih (by omega)]
    exact (mk_snoc (nd_take nd hi)).trans (by rw [← take_next hi, mk_take1 hi])
theorem merge_all {ns : List PySem.Str} {g : PySem.Str → V} (nd : ns.Nodup) : mergeK [] (mk ns g) = mk ns g := by
  have := merge_mk (g := g) nd ns.length (Nat.le_refl _)
  rwa [List.take_of_length_le (Nat.le_refl _)] at this
theorem merge_some {l : List PySem.Str} {g : PySem.Str → V} {z : PySem.Str} : (valV (mergeK [] (mk l g)) (.inr z)).isSome = true ↔ z ∈ l := by
  have key : ∀ i, i ≤ l.length → ((valV (mergeK [] (mk (l.take i) g)) (.inr z)).isSome = true ↔ z ∈ l.take i) := fun i => by
    induction i with
    | zero => exact fun _ => by simp [mergeK, valV]
    | succ i ih =>
      intro le
      have hi : l[i]? = some l[i] := List.getElem?_eq_getElem (by omega)
      generalize l[i] = y at hi
      rw [mk_take1 hi, mergeK_snoc, valV_put, take_next hi]
      by_cases q : z = y
      · rw [if_pos (by rw [q])]
        simp [q]
      · rw [if_neg (fun w => q (Sum.inr.inj w)), ih (by omega)]
        simp [q]
  have := key l.length (Nat.le_refl _)
  rwa [List.take_of_length_le (Nat.le_refl _)] at this
/-- pairs (z, g z) at ps -/
abbrev PrAt (G : Hp) (g : PySem.Str → V) (ps : List Addr) (l : List PySem.Str) : Prop := Paired (fun p z => G p = some (.tup [.str z, g z])) ps l
theorem pr_dict {K : PySem.W.Frag} {G : Hp} {g : PySem.Str → V} {ps : List Addr} {l : List PySem.Str} (h : PrAt G g ps l) : Paired (fun p (kv : Key × V) => SqT K G p [kV kv.1, kv.2]) ps (mk l g) := pair_mapL (fun p z e => .inl (.inl e)) h
/-- lists of lists -/
def LLAt (G : Hp) (d : Addr) (ll : List (List PySem.Str)) : Prop := ∃ vs, G d = some (.lst vs) ∧ Paired (fun v (l : List PySem.Str) => ∃ b, v = V.ref b ∧ b ≠ d ∧ G b = some (.lst (l.map V.str))) vs ll
theorem LLAt.ext {G G' : Hp} {d : Addr} {ll : List (List PySem.Str)} (h : LLAt G d ll) (e : Ext [] G G') : LLAt G' d ll := by
  obtain ⟨vs, h1, h2⟩ := h
  exact ⟨vs, e.at0 h1, pair_map h2 fun v l ⟨b, z1, z2, z3⟩ => ⟨b, z1, z2, e.at0 z3⟩⟩
section
variable {P : Program} {w : World} {K : PySem.W.Frag} {mg : Str → Option Value} {base : Heap} {CV CG CB : Addr}
def spFLots : Sp := fun vs H Q _ => ∃ (a r : Addr) (f : V) (xs : List V) (ns : List PySem.Str) (es bs : List Ed) (hs : List Int), vs = [f, .ref r] ∧ Fo a H f ns es hs ∧ Pf ns es hs ∧ H r = some (.lst xs) ∧ Paired (TupE H) xs bs ∧ (∀ e ∈ bs, e ∈ es) ∧ bs.Nodup ∧ bs.length ≤ 500 ∧
  ∀ H' d, Ext [] H H' → LotsAt H H' d (lotsF ns bs) → Q (.ref d) H'
abbrev N__law_f_lots : List PySem.Str := ["_law_form", "_law_begun", "_law_joint", "_law_found", "_law_name", "_law_one", "_law_other", "_law_both", "_law_inside", "_law_part"]
theorem sc__law_f_lots : FnScope N__law_f_lots ["_law_form", "_law_begun"] (defScope (topS 51)) := ⟨rfl, rfl, rfl, by decide +kernel, rfl, by decide +kernel, by decide +kernel⟩
theorem bb__law_f_lots : BindsBy "_law_f_lots" (topS 51) ["_law_form", "_law_begun"] := fun _ _ _ _ _ _ us hl => match us, hl with | [_, _], _ => rfl
theorem ok_flots (T : Tx P K mg CV CG CB) (D : Df K mg "_law_f_lots" (topS 51)) : Cl P w K mg base CX0 1 "_law_f_lots" spFLots := by
  refine D.cl0 sc__law_f_lots bb__law_f_lots (fun vs H Q E ⟨x, _, _, _, _, _, _, _, e, _⟩ => by rw [e]; rfl) fun f cdv A outer s H vs Q E hr h => ?_
  have nd := sc__law_f_lots.nd
  obtain ⟨a, r, f, xs, ns, es, bs, hs, rfl, fo, pf, hr1, pr, sub, bnd, lb, q⟩ := h
  refine ⟨_, (pss_cons (ps_par (i := 2) (j := 3) rfl nd rfl rfl (by decide) rfl rfl (pa_cons (pe_callTy (call_dictP rfl) (by rfl) T.dict bi_dict (pa_cons (pe_lc (own := [("_law_name", 4)]) (g := gName 4) (tt := tYes) rfl nd (pi_seq (pe_ix ix_seq (pv 0) pe_int (fun _ _ => rfl))) (blkOk_by (N := N__law_f_lots) (sc := defScope (topS 51)) (by decide +kernel)) (fun _ _ _ _ _ => (pg_name (i := 4) nd rfl (.inl rfl))) (fun _ _ _ _ _ => pts_nil) (fun _ _ _ _ _ => (pe_tup (pa_cons (pv 4) (pa_cons (pe_lst (pa_cons (pv 4) pa_nil)) pa_nil))))) pa_nil)) (pa_cons (pe_lst pa_nil) pa_nil)) rfl)
  (pss_cons (ps_for PassesOwn.never rfl (pi_seq (pv 1)) (pg_tup rfl (pgs_cons (pg_name (i := 5) nd rfl (.inl rfl)) (pgs_cons (pg_name (i := 6) nd rfl (.inl rfl)) pgs_nil)))
    (pss_cons (ps_set (i := 7) nd rfl (.inl rfl) (pe_op op_cat (pe_dget (hu_of hr) (pv 2) (pv 5) (fun _ _ => rfl)) (pe_dget (hu_of hr) (pv 2) (pv 6) (fun _ _ => rfl))))
  (pss_one (ps_for PassesOwn.never rfl (pi_seq (pv 7)) (pg_name (i := 4) nd rfl (.inl rfl))
    (pss_one (ps_dput (hu_of hr) (pv 2) (pv 4) (pv 7) rfl))))))
  (pss_cons (ps_for PassesOwn.never rfl (pi_seq (pe_ix ix_seq (pv 0) pe_int (fun _ _ => rfl))) (pg_name (i := 4) nd rfl (.inl rfl))
    (pss_cons (ps_set (i := 8) nd rfl (.inr rfl) (pe_callTy (call_dictP rfl) (by rfl) T.dict bi_dict (pa_cons (pe_lc (own := [("_law_one", 5)]) (g := gName 5) (tt := tYes) rfl nd (pi_seq (pe_dget (hu_of hr) (pv 2) (pv 4) (fun _ _ => rfl))) (blkOk_by (N := N__law_f_lots) (sc := defScope (topS 51)) (by decide +kernel)) (fun _ _ _ _ _ => (pg_name (i := 5) nd rfl (.inl rfl))) (fun _ _ _ _ _ => pts_nil) (fun _ _ _ _ _ => (pe_tup (pa_cons (pv 5) (pa_cons pe_bl pa_nil))))) pa_nil)))
  (pss_cons (ps_setLc (i := 9) (own := [("_law_one", 5)]) (g := gName 5) rfl nd rfl rfl (sw_true rfl rfl rfl (by decide +kernel)) (pi_seq (pe_ix ix_seq (pv 0) pe_int (fun _ _ => rfl))) (blkOk_by (N := N__law_f_lots) (sc := defScope (topS 51)) (by decide +kernel)) (fun _ _ _ _ _ => (pg_name (i := 5) nd rfl (.inl rfl))) (fun _ _ _ _ _ => (pts_one (pt_cmp (pc_din (hu_of hr) (pv 5) (pv 8))))) (fun _ _ _ _ _ => (pv 5)))
  (pss_one (ps_expr (pe_bm PySem.F.plainAttrs_list PySem.F.slot_list_extend PySem.F.type_list_extend mt_extend (pv 3) (pa_cons (pe_op op_rep (pe_lst (pa_cons (pv 9) pa_nil)) (pe_callTy call_int1 (by rfl) T.int bi_int (pa_cons (pe_cmpR op_eq (pe_ix ix_seq (pv 9) pe_int (fun _ _ => rfl)) (pv 4) (nomark _)) pa_nil))) pa_nil)))))))
  (pss_one (ps_ret (pv 3)))))), ?_⟩
  obtain ⟨fa, n, rr, hh, rs, rfl, na1, na2, na3, y⟩ := fo
  have pn2 := pf.n2
  have lns : (ns.map V.str).length = ns.length := List.length_map ..
  have lxb := pr.length
  have mb : ∀ e ∈ bs, e.1 ∈ ns ∧ e.2 ∈ ns := fun e he => pf.mem e (sub e he)
  have acy := pf.acy.sub bnd sub
  have jl := jl_run acy mb
  refine ⟨_, rfl, ix_at (j := 0) (.inr y.t) rfl ⟨n, _, rfl, Sx.sq (.inl y.n), fun J Gq g0 gE wk D1 hD1 => ?_⟩⟩
  refine lc_run wk (fun H' e => gE [] H' (by simp) e) hD1 (fun i acc G => ∃ (ps : List Addr) (nf : PySem.Str → Addr), acc = ps.map V.ref ∧ PrAt G (fun z => .ref (nf z)) ps (ns.take i) ∧ NowAt G (ns.take i) nf (fun z => [z]) ∧ ∀ z ∈ ns.take i, nf z ≠ D1) ⟨[], fun _ => D1, rfl, .nil, fun z hz => by simp at hz, fun z hz => by simp at hz⟩ (fun i u Ga Gb lt I yy => ?_) fun acc G1 e1 hacc rr => ?_
  · obtain ⟨rfl, hy⟩ := yy
    obtain ⟨z, rfl, hz, mz⟩ := at_str hy
    obtain ⟨e0, acc, hac, la, ps, nf, rfl, pp, nok, nD⟩ := I
    have nz := nd_take pf.nd hz
    refine ⟨rfl, _, rfl, _, rfl, by show 1 ≤ sizeLine; decide, fun p hp => ⟨by show 2 ≤ sizeLine; decide, fun p2 hp2 => ?_⟩⟩
    have eT : Ext [] Gb (upd (upd Gb p (.lst [.str z])) p2 (.tup [.str z, .ref p])) := (ext_new hp).new hp2
    have hacT := eT.at0 hac
    have pD : p ≠ D1 := fun q => by rw [q, hac] at hp; cases hp
    have p2D : p2 ≠ D1 := fun q => by rw [q] at hp2; rw [(ext_new (L := []) hp).at0 hac] at hp2; cases hp2
    have pp2 : p ≠ p2 := ne_of_none upd_same hp2
    refine lcp hD1 (e0.trans eT) hacT la (by omega) ⟨ps ++ [p2], fun y => if y = z then p else nf y, by simp, ?_, ?_, ?_⟩
    · rw [take_next hz]
      refine pair_snoc (pair_ix pp.length fun j p' y h1 h2 => ?_) ?_
      · have my : y ∈ ns.take i := List.mem_of_getElem? h2
        have h3 := eT.at0 (pair_at pp h1 h2)
        show _ = some (HO.tup [.str y, .ref (if y = z then p else nf y)])
        rw [upd_ne (fun q => by rw [q, hacT] at h3; cases h3), if_neg (fun q => nz (by rw [← q]; exact my))]
        exact h3
      · show _ = some (HO.tup [.str z, .ref (if z = z then p else nf z)])
        rw [upd_ne p2D, if_pos rfl]
        exact upd_same
    · intro y hy
      show _ = some (HO.lst ([V.str y]))
      by_cases e : y = z
      · subst e
        simp only [if_true]
        rw [upd_ne pD, upd_ne pp2]
        exact upd_same
      · simp only [if_neg e]
        rw [take_next hz] at hy
        have hy : y ∈ ns.take i := (List.mem_append.mp hy).resolve_right fun q => e (List.mem_singleton.mp q)
        rw [upd_ne (nD y hy)]
        exact eT.at0 (nok y hy)
    · intro y hy
      show (if y = z then p else nf y) ≠ D1
      by_cases e : y = z
      · rw [if_pos e]
        exact pD
      · rw [if_neg e]
        rw [take_next hz] at hy
        exact nD y ((List.mem_append.mp hy).resolve_right fun q => e (List.mem_singleton.mp q))
  obtain ⟨ps, nf0, rfl, pp, nok0, _⟩ := rr
  rw [lns, List.take_of_length_le (Nat.le_refl _)] at pp nok0
  refine ⟨D1, ps, _, rfl, .inl (.inl hacc), pr_dict pp, fun jd hjd => ?_⟩
  rw [merge_all pf.nd]
  refine ⟨Nat.zero_le _, fun fd hfd => ⟨_, _, rfl, ?_⟩⟩
  have eJ : Ext [] G1 (upd G1 jd (.dK (mk ns fun z => .ref (nf0 z)))) := ext_new hjd
  have e2 : Ext [] H (upd (upd G1 jd (.dK (mk ns fun z => .ref (nf0 z)))) fd (.lst [])) := (e1.trans eJ).new hfd
  have hjdH := e1.free0 hjd
  have hfdH := (e1.trans eJ).free0 hfd
  have njf : jd ≠ fd := ne_of_none upd_same hfd
  have hk2 : (upd (upd G1 jd (.dK (mk ns fun z => .ref (nf0 z)))) fd (.lst [])) jd = some (.dK (mk ns fun z => .ref (nf0 z))) := by rw [upd_ne njf]; exact upd_same
  have hf2 : (upd (upd G1 jd (.dK (mk ns fun z => .ref (nf0 z)))) fd (.lst [])) fd = some (.lst []) := upd_same
  have nok2 := nok0.ext (eJ.new (o := .lst []) hfd)
  have nf0d : ∀ z ∈ ns, nf0 z ≠ fd := fun z hz q => by
    have w' := eJ.at0 (nok0 z hz)
    rw [q, hfd] at w'
    cases w'
  revert e2 hk2 hf2 nok2
  generalize upd (upd G1 jd (.dK (mk ns fun z => .ref (nf0 z)))) fd (.lst []) = G2
  intro e2 hk2 hf2 nok2
  have nrj : r ≠ jd := ne_of_none hr1 hjdH
  refine ⟨_, rfl, r, xs, rfl, Sx.sq (.inl (e2.at0 hr1)), fun J Gq g0 gE wk => ?_⟩
  refine for_it wk (fun i τ G => ∃ (v4 v5 v6 v7 v8 v9 : Option V) (nf : PySem.Str → Addr), τ = [some (.ref fa), some (.ref r), some (.ref jd), some (.ref fd), v4, v5, v6, v7, v8, v9] ∧ Ext [jd] G2 G ∧ Ext [] H G ∧ G jd = some (.dK (mk ns fun z => .ref (nf z))) ∧ NowAt G ns nf (jRun (bs.take i)) ∧ ∀ z ∈ ns, nf z ≠ fd)
    ⟨_, _, _, _, _, _, nf0, rfl, .rfl, e2, hk2, nok2, nf0d⟩ (fun i τ G _ ⟨_, _, _, _, _, _, _, _, e, _⟩ => gE [jd] G (by simpa using nrj) e) (fun i u τ Ga Gb lt I yy => ?_) (fun τ Ga I => ?_)
  · obtain ⟨v4, v5, v6, v7, v8, v9, nf, rfl, e, eH, hk, nok, nfd⟩ := I
    obtain ⟨rfl, hy⟩ := yy
    have nbf : ∀ p, Gb p = none → p ≠ fd := fun p hp q => by
      rw [q, e.at1 (Ne.symm njf) hf2] at hp
      cases hp
    have hei : bs[i]? = some bs[i] := List.getElem?_eq_getElem (by omega)
    generalize bs[i] = ed at hei
    obtain ⟨c, rfl, hcc⟩ := (pair_at pr hy hei).ext0 eH
    obtain ⟨m1, m2⟩ := mb ed (List.mem_of_getElem? hei)
    have jli := jl i (by omega)
    have hsn : jRun (bs.take (i + 1)) = jStep (jRun (bs.take i)) ed := by rw [take_next hei, jRun_snoc]
    have ln : ∀ x ∈ ns, (jRun (bs.take i) x).length ≤ 60 := fun x hx => Nat.le_trans (len_sub (jli.n x hx) fun y hy => ((jli.m x hx y).mp hy).1) pn2
    have inN : ∀ z, z ∈ jRun (bs.take i) ed.1 ++ jRun (bs.take i) ed.2 → z ∈ ns := fun z hz => (List.mem_append.mp hz).elim (fun h => ((jli.m _ m1 z).mp h).1) fun h => ((jli.m _ m2 z).mp h).1
    have q1 := ln _ m1
    have q2 := ln _ m2
    generalize jRun (bs.take i) = JJ at nok hsn inN q1 q2
    refine ⟨c, _, rfl, .inl (.inl hcc), rfl, _, _, rfl, _, _, rfl, rfl, ?_⟩
    refine ⟨_, rfl, _, rfl, jd, _, rfl, dg_mk hk m1, _, rfl, _, rfl, jd, _, rfl, dg_mk hk m2, _, _, _, _, rfl, rfl, nok _ m1, nok _ m2, Nat.le_of_lt (lenZ (by rw [List.length_map, List.length_map]; omega)), fun bp hbp => ?_⟩
    have nbp := nbf bp hbp
    rw [← List.map_append]
    have eB : Ext [] Gb (upd Gb bp (.lst ((JJ ed.1 ++ JJ ed.2).map V.str))) := ext_new hbp
    have hb5 : (upd Gb bp (.lst ((JJ ed.1 ++ JJ ed.2).map V.str))) bp = some (.lst ((JJ ed.1 ++ JJ ed.2).map V.str)) := upd_same
    have hk5 := eB.at0 hk
    have nok5 := nok.ext eB
    have eN5 : Ext [jd] G2 (upd Gb bp (.lst ((JJ ed.1 ++ JJ ed.2).map V.str))) := e.new hbp
    have eH5 := eH.trans eB
    revert hb5 hk5 nok5 eN5 eH5
    generalize upd Gb bp (.lst ((JJ ed.1 ++ JJ ed.2).map V.str)) = G5
    intro hb5 hk5 nok5 eN5 eH5
    generalize hll : JJ ed.1 ++ JJ ed.2 = ll at hb5 inN
    have lll : ll.length ≤ 120 := by rw [← hll, List.length_append]; omega
    have nbj : bp ≠ jd := fun q => by rw [q, hk5] at hb5; cases hb5
    refine ⟨_, rfl, bp, _, rfl, Sx.sq (.inl hb5), fun J4 Gq4 g04 gE4 wk4 => ?_⟩
    refine for_it wk4 (fun j τ G => ∃ (v4 v8 v9 : Option V), τ = [some (.ref fa), some (.ref r), some (.ref jd), some (.ref fd), v4, some (.str ed.1), some (.str ed.2), some (.ref bp), v8, v9] ∧ Ext [jd] G5 G ∧ Ext [] H G ∧ G jd = some (.dK (mk ns fun z => .ref (if z ∈ ll.take j then bp else nf z))))
      ⟨_, _, _, rfl, .rfl, eH5, hk5⟩ (fun j τ G _ ⟨_, _, _, _, e, _⟩ => gE4 [jd] G (by simpa using nbj) e) (fun j u τ Gc Gd lt4 I4 yy4 => ?_) (fun τ Gc I4 => ?_)
    · obtain ⟨v4, v8, v9, rfl, e6, eH6, hk6⟩ := I4
      obtain ⟨rfl, hy4⟩ := yy4
      obtain ⟨z, rfl, hz, mz⟩ := at_str hy4
      refine ⟨_, rfl, _, rfl, _, rfl, jd, _, rfl, DPut.k (k := .inr z) hk6 (lenZ (by rw [List.length_map]; omega)), ?_⟩
      refine ⟨_, _, _, rfl, e6.putL (by simp), eH6.put hjdH, ?_⟩
      rw [upd_same, mk_put (inN z mz)]
      refine congrArg (fun q => some (HO.dK q)) (mk_congr fun w' hw => ?_)
      rw [take_next hz]
      by_cases q : w' = z
      · subst q
        simp
      · simp [q]
    · obtain ⟨v4, v8, v9, rfl, e6, eH6, hk6⟩ := I4
      rw [List.length_map, List.take_of_length_le (Nat.le_refl _)] at hk6
      refine ⟨_, _, _, _, _, _, fun z => if z ∈ ll then bp else nf z, rfl, eN5.trans e6, eH6, hk6, ?_, fun z hz => by
        show (if z ∈ ll then bp else nf z) ≠ fd
        split
        · exact nbp
        · exact nfd z hz⟩
      rw [hsn]
      intro z hz
      show Gc (if z ∈ ll then bp else nf z) = some (.lst ((if z ∈ JJ ed.1 ++ JJ ed.2 then JJ ed.1 ++ JJ ed.2 else JJ z).map V.str))
      rw [hll]
      by_cases q : z ∈ ll
      · rw [if_pos q, if_pos q]
        exact e6.at1 nbj hb5
      · rw [if_neg q, if_neg q]
        exact e6.at1 (fun y => by have w' := nok5 z hz; rw [y, hk5] at w'; cases w') (nok5 z hz)
  obtain ⟨v4, v5, v6, v7, v8, v9, nf, rfl, e, eH, hk, nok, nfd⟩ := I
  rw [lxb, List.take_of_length_le (Nat.le_refl _)] at nok
  have jls := jl bs.length (Nat.le_refl _)
  rw [List.take_of_length_le (Nat.le_refl _)] at jls
  have hfa := e.at1 (Ne.symm njf) hf2
  rw [← lots_eq acy mb] at q
  unfold lotsL at q
  have ln : ∀ x ∈ ns, (jRun bs x).length ≤ 60 := fun x hx => Nat.le_trans (len_sub (jls.n x hx) fun y hy => ((jls.m x hx y).mp hy).1) pn2
  have self : ∀ x ∈ ns, x ∈ jRun bs x := fun x hx => (jls.m x hx x).mpr ⟨hx, rfl⟩
  generalize jRun bs = JJ at nok q ln self
  clear jls
  refine ⟨_, rfl, ix_at (j := 0) (.inr (eH.at0 y.t)) rfl ⟨n, _, rfl, Sx.sq (.inl (eH.at0 y.n)), fun J Gq g0 gE wk => ?_⟩⟩
  have nfn : n ≠ fd := ne_of_none y.n hfdH
  refine for_it wk (fun i τ G => ∃ (v4 v5 v6 v7 v8 v9 : Option V), τ = [some (.ref fa), some (.ref r), some (.ref jd), some (.ref fd), v4, v5, v6, v7, v8, v9] ∧ Ext [fd] Ga G ∧ Ext [] H G ∧ ∃ vs, G fd = some (.lst vs) ∧ vs.length ≤ i ∧ Paired (fun v (l : List PySem.Str) => ∃ b, v = V.ref b ∧ b ≠ fd ∧ G b = some (.lst (l.map V.str)) ∧ FrN H b) vs ((ns.take i).map fun x => jOne ns JJ x).flatten)
    ⟨_, _, _, _, _, _, rfl, .rfl, eH, [], hfa, Nat.le_refl _, .nil⟩ (fun i τ G _ ⟨_, _, _, _, _, _, _, e, _⟩ => gE [fd] G (by simpa using nfn) e) (fun i u τ Gb Gc lt I yy => ?_) (fun τ Gb I => ?_)
  · obtain ⟨v4, v5, v6, v7, v8, v9, rfl, eF, eG, vs, hvs, lvs, pv⟩ := I
    obtain ⟨rfl, hy⟩ := yy
    obtain ⟨x, rfl, hx, mx⟩ := at_str hy
    have hkb := eF.at1 njf hk
    have nkb := eF.at1 (nfd x mx) (nok x mx)
    have lx := ln x mx
    -- inside
    refine ⟨_, rfl, _, rfl, jd, _, rfl, dg_mk hkb mx, nf x, _, rfl, Sx.sq (.inl nkb), fun J2 Gq2 g02 gE2 wk2 D2 hD2 => ?_⟩
    refine lc_run wk2 (fun H' e => gE2 [] H' (by simp) e) hD2 (fun j acc G => ∃ ps : List Addr, acc = ps.map V.ref ∧ PrAt G (fun _ => .bl true) ps ((JJ x).take j)) ⟨[], rfl, .nil⟩ (fun j u Gd Ge lt2 I2 yy2 => ?_) fun acc G3 e3 hacc rr => ?_
    · obtain ⟨rfl, hy2⟩ := yy2
      obtain ⟨z, rfl, hz, mz⟩ := at_str hy2
      obtain ⟨e0, acc, hac, la, ps, rfl, pp⟩ := I2
      refine ⟨rfl, _, rfl, by show 2 ≤ sizeLine; decide, fun p hp => ?_⟩
      have eT : Ext [] Ge (upd Ge p (.tup [.str z, .bl true])) := ext_new hp
      have hacT := eT.at0 hac
      refine lcp hD2 (e0.trans eT) hacT la (by rw [List.length_map] at lt2; omega) ⟨ps ++ [p], by simp, ?_⟩
      rw [take_next hz]
      refine pair_snoc (pair_map pp fun p' y h => ?_) ?_
      · have h3 := eT.at0 h
        rw [upd_ne (fun q => by rw [q, hacT] at h3; cases h3)]
        exact h3
      · rw [upd_ne (fun q => by rw [q, hac] at hp; cases hp)]
        exact upd_same
    obtain ⟨ps, rfl, pp⟩ := rr
    rw [List.length_map, List.take_of_length_le (Nat.le_refl _)] at pp
    refine ⟨D2, ps, _, rfl, .inl (.inl hacc), pr_dict pp, fun idd hid => ?_⟩
    have eI : Ext [] Gc (upd G3 idd (.dK (mergeK [] (mk (JJ x) fun _ => .bl true)))) := e3.new hid
    have hI : (upd G3 idd (.dK (mergeK [] (mk (JJ x) fun _ => .bl true)))) idd = some (.dK (mergeK [] (mk (JJ x) fun _ => .bl true))) := upd_same
    revert eI hI
    generalize upd G3 idd (.dK (mergeK [] (mk (JJ x) fun _ => .bl true))) = G4
    intro eI hI
    -- part
    refine ⟨_, rfl, ix_at (j := 0) (.inr ((eG.trans eI).at0 y.t)) rfl ⟨n, _, rfl, Sx.sq (.inl ((eG.trans eI).at0 y.n)), fun J3 Gq3 g03 gE3 wk3 pp3 hpp3 => ?_⟩⟩
    refine lc_run wk3 (fun H' e => gE3 [] H' (by simp) e) hpp3 (Rl ns fun z => if decide (z ∈ JJ x) = true then some (V.str z) else none) rfl (fun k u Gd Ge lt3 I3 yy3 => ?_) fun acc G5 e5 hacc5 rr5 => ?_
    · obtain ⟨rfl, hy3⟩ := yy3
      obtain ⟨z, rfl, hz, mz⟩ := at_str hy3
      refine ⟨rfl, _, rfl, _, rfl, idd, _, rfl, DGet.k (k := .inr z) (I3.1.at0 hI), _, rfl, ?_⟩
      by_cases w' : z ∈ JJ x
      · exact itB (merge_some.mpr w') ⟨_, rfl, lm_push hpp3 I3 .rfl hz (by omega) (by rw [decide_eq_true w']; rfl)⟩
      · exact itN (by rw [Bool.eq_false_iff]; exact fun y => w' (merge_some.mp y)) (lm_skip I3 .rfl hz (by rw [decide_eq_false w']; rfl))
    have rr5 : acc = (ns.take (ns.map V.str).length).filterMap (fun z => if decide (z ∈ JJ x) = true then some (V.str z) else none) := rr5
    rw [lns, List.take_of_length_le (Nat.le_refl _), strs_map] at rr5
    subst rr5
    have hone : jOne ns JJ x = if (jPart ns JJ x).head? = some x then [jPart ns JJ x] else [] := rfl
    have hmem : x ∈ jPart ns JJ x := List.mem_filter.mpr ⟨mx, decide_eq_true (self x mx)⟩
    have hacc5 : G5 pp3 = some (.lst ((jPart ns JJ x).map V.str)) := hacc5
    generalize jPart ns JJ x = part at hone hmem hacc5
    have eC5 : Ext [] Gc G5 := eI.trans e5
    have hvs5 := eC5.at0 hvs
    refine ⟨_, rfl, tyl hvs5, ?_⟩
    refine ⟨_, rfl, by show 1 ≤ sizeLine; decide, fun p6 hp6 => ?_⟩
    have e6 : Ext [] G5 (upd G5 p6 (.lst [.ref pp3])) := ext_new hp6
    obtain ⟨y0, rest, rfl⟩ : ∃ y0 rest, part = y0 :: rest := by
      cases part with
      | nil => cases hmem
      | cons y0 rest => exact ⟨y0, rest, rfl⟩
    refine ⟨_, rfl, ix_at (j := 0) (.inl (e6.at0 hacc5)) rfl ⟨_, rfl, rfl, .inr ⟨_, rfl, ?_⟩⟩⟩
    have hdec : decide (V.str y0 = V.str x) = decide (y0 = x) := by
      by_cases w' : y0 = x
      · rw [w', decide_eq_true rfl, decide_eq_true rfl]
      · rw [decide_eq_false w', decide_eq_false fun z => w' (V.str.inj z)]
    rw [hdec]
    have frpp : FrN H pp3 := fun o ho => by
      rw [(eG.trans eI).free0 hpp3] at ho
      cases ho
    have nppf : pp3 ≠ fd := fun w' => by rw [w', eI.at0 hvs] at hpp3; cases hpp3
    have fin : ∀ G7 p7 (k : Nat), Ext [] G5 G7 → k ≤ 1 → G7 p7 = some (.lst (List.replicate k (V.ref pp3))) → (jOne ns JJ x = List.replicate k (y0 :: rest)) →
        rExtend (.ref fd) [.ref p7] G7 fun _ G8 => ∃ (w4 w5 w6 w7 w8 w9 : Option V), [some (V.ref fa), some (.ref r), some (.ref jd), some (.ref fd), some (.str x), v5, v6, v7, some (.ref idd), some (.ref pp3)] = [some (.ref fa), some (.ref r), some (.ref jd), some (.ref fd), w4, w5, w6, w7, w8, w9] ∧ Ext [fd] Ga G8 ∧ Ext [] H G8 ∧ ∃ vs, G8 fd = some (.lst vs) ∧ vs.length ≤ i + 1 ∧ Paired (fun v (l : List PySem.Str) => ∃ b, v = V.ref b ∧ b ≠ fd ∧ G8 b = some (.lst (l.map V.str)) ∧ FrN H b) vs ((ns.take (i + 1)).map fun x => jOne ns JJ x).flatten := fun G7 p7 k e7 hk7 hp7 ho => by
      have e57 := eC5.trans e7
      refine ⟨fd, p7, vs, _, rfl, rfl, e57.at0 hvs, hp7, Nat.le_of_lt (lenZ (by rw [List.length_replicate]; omega)), _, _, _, _, _, _, rfl, (eF.trans e57.of0).putL (by simp), (eG.trans e57).put hfdH, _, upd_same, by rw [List.length_append, List.length_replicate]; omega, ?_⟩
      rw [take_next hx, List.map_append, List.flatten_append]
      have old : Paired (fun v (l : List PySem.Str) => ∃ b, v = V.ref b ∧ b ≠ fd ∧ (upd G7 fd (.lst (vs ++ List.replicate k (V.ref pp3)))) b = some (.lst (l.map V.str)) ∧ FrN H b) vs ((ns.take i).map fun x => jOne ns JJ x).flatten := pair_map pv fun v l ⟨b, z1, z2, z3, z4⟩ => ⟨b, z1, z2, by rw [upd_ne z2]; exact e57.at0 z3, z4⟩
      have one : ([x].map fun x => jOne ns JJ x).flatten = List.replicate k (y0 :: rest) := by simp [ho]
      rw [one]
      match k, hk7 with
      | 0, _ => simpa using old
      | 1, _ => exact pair_snoc old ⟨pp3, rfl, nppf, by rw [upd_ne nppf]; exact e7.at0 hacc5, frpp⟩
    by_cases w' : y0 = x
    · rw [decide_eq_true w']
      refine ⟨p6, 1, _, rfl, rfl, upd_same, by decide, by decide, by show 1 * 1 ≤ sizeLine; decide, fun p7 hp7 => ?_⟩
      refine fin _ p7 1 (e6.new hp7) (Nat.le_refl _) upd_same ?_
      rw [hone, if_pos (by rw [w']; rfl)]
      rfl
    · rw [decide_eq_false w']
      refine ⟨p6, 0, _, rfl, rfl, upd_same, by decide, by decide, by show 1 * 0 ≤ sizeLine; decide, fun p7 hp7 => ?_⟩
      refine fin _ p7 0 (e6.new hp7) (Nat.zero_le _) upd_same ?_
      have hne : ¬ (y0 :: rest).head? = some x := fun z => w' (Option.some.inj z)
      rw [hone, if_neg hne]
      rfl
  · obtain ⟨v4, v5, v6, v7, v8, v9, rfl, eF, eG, vs, hvs, lvs, pv⟩ := I
    rw [lns, List.take_of_length_le (Nat.le_refl _)] at pv
    exact ⟨_, rfl, q Gb fd eG ⟨(fun o ho => by rw [hfdH] at ho; cases ho), vs, hvs, pv⟩⟩
end
end K70

/-! K7O: the law's parts and feasts. -/
namespace K70
open PySem PySem.Spec PyProof.Rows L2 LamX
theorem valV_notin {κ : Type} [DecidableEq κ] {k : κ} : ∀ {kvs : List (κ × V)}, k ∉ kvs.map Prod.fst → valV kvs k = none
  | [], _ => rfl
  | p :: r, h => by
    rw [List.map_cons, List.mem_cons, not_or] at h
    rw [valV_neg (Ne.symm h.1)]
    exact valV_notin h.2
theorem merA_new {κ : Type} [DecidableEq κ] : ∀ {more acc : List (κ × V)}, ((acc ++ more).map Prod.fst).Nodup → merA acc more = acc ++ more
  | [], acc, _ => by simp [merA]
  | p :: r, acc, h => by
    show merA (putK acc p.1 p.2) r = _
    have e : acc ++ p :: r = (acc ++ [p]) ++ r := by simp
    have hn : p.1 ∉ acc.map Prod.fst := fun m => by
      rw [List.map_append] at h
      exact (List.nodup_append.mp h).2.2 _ m p.1 (by simp) rfl
    rw [putK_new (valV_notin hn), e]
    exact merA_new (by rw [← e]; exact h)
theorem parts_sub {o : Ed → Option (List PySem.Str)} : ∀ {es : List Ed}, ((es.filterMap fun e => (o e).map fun p => (e, p)).map Prod.fst).Sublist es
  | [] => .refl _
  | e :: es => by
    cases q : o e with
    | none =>
      rw [List.filterMap_cons_none (by rw [q]; rfl)]
      exact (parts_sub (es := es)).cons e
    | some p =>
      rw [List.filterMap_cons_some (by rw [q]; rfl), List.map_cons]
      exact (parts_sub (es := es)).cons_cons e
theorem keys_nd {H0 G : Hp} {kvs : List (List Key × V)} {ps : List (Ed × List PySem.Str)} (h : Paired (PtAt H0 G) kvs ps) (nd : (ps.map Prod.fst).Nodup) : (kvs.map Prod.fst).Nodup := by
  have e : kvs.map Prod.fst = (ps.map Prod.fst).map kE := by
    clear nd
    induction h with
    | nil => rfl
    | cons r _ ih => rw [List.map_cons, List.map_cons, List.map_cons, ih, r.1]
  rw [e, List.nodup_iff_pairwise_ne, List.pairwise_map]
  exact (List.nodup_iff_pairwise_ne.mp nd).imp fun {a b} n q => n (kE_inj q)
section
variable {P : Program} {w : World} {K : PySem.W.Frag} {mg : Str → Option Value} {base : Heap} {CV CG CB : Addr}
theorem hu8 {A : Around} {k : Nat} (hr : Room k A) : A.units + 8 < cLine := by have := hr.un; omega
def spFParts : Sp := fun vs H Q _ => ∃ (a r : Addr) (f : V) (xs : List V) (ns : List PySem.Str) (es bs : List Ed) (hs : List Int), vs = [f, .ref r] ∧ Fo a H f ns es hs ∧ Pf ns es hs ∧ H r = some (.lst xs) ∧ Paired (TupE H) xs bs ∧ (∀ e ∈ bs, e ∈ es) ∧ bs.length ≤ 500 ∧
  ∀ H' d kvs, Ext [] H H' → H d = none → H' d = some (.dT kvs) → Paired (PtAt H H') kvs (bParts ns es bs) → Q (.ref d) H'
abbrev N__law_f_begun_parts : List PySem.Str := ["_law_form", "_law_begun", "_law_joint", "_law_found", "_law_name", "_law_one", "_law_other", "_law_both", "_law_part", "_law_road"]
theorem sc__law_f_begun_parts : FnScope N__law_f_begun_parts ["_law_form", "_law_begun"] (defScope (topS 52)) := ⟨rfl, rfl, rfl, by decide +kernel, rfl, by decide +kernel, by decide +kernel⟩
theorem bb__law_f_begun_parts : BindsBy "_law_f_begun_parts" (topS 52) ["_law_form", "_law_begun"] := fun _ _ _ _ _ _ us hl => match us, hl with | [_, _], _ => rfl
theorem ok_fparts (T : Tx P K mg CV CG CB) (D : Df K mg "_law_f_begun_parts" (topS 52)) : Cl P w K mg base CX0 1 "_law_f_begun_parts" spFParts := by
  refine D.cl0 sc__law_f_begun_parts bb__law_f_begun_parts (fun vs H Q E ⟨x, _, _, _, _, _, _, _, e, _⟩ => by rw [e]; rfl) fun f cdv A outer s H vs Q E hr h => ?_
  have nd := sc__law_f_begun_parts.nd
  obtain ⟨a, r, f, xs, ns, es, bs, hs, rfl, fo, pf, hr1, pk, sub, lb, q⟩ := h
  refine ⟨_, (pss_cons (ps_asg (pe_tup (pa_cons (pe_callTy (call_dictP rfl) (by rfl) T.dict bi_dict (pa_cons (pe_lc (own := [("_law_name", 4)]) (g := gName 4) (tt := tYes) rfl nd (pi_seq (pe_ix ix_seq (pv 0) pe_int (fun _ _ => rfl))) (blkOk_by (N := N__law_f_begun_parts) (sc := defScope (topS 52)) (by decide +kernel)) (fun _ _ _ _ _ => (pg_name (i := 4) nd rfl (.inl rfl))) (fun _ _ _ _ _ => pts_nil) (fun _ _ _ _ _ => (pe_tup (pa_cons (pv 4) (pa_cons (pe_lst (pa_cons (pv 4) pa_nil)) pa_nil))))) pa_nil)) (pa_cons pe_dnewT pa_nil))) (pg_tup rfl (pgs_cons (pg_name (i := 2) nd rfl (.inl rfl)) (pgs_cons (pg_name (i := 3) nd rfl (.inr rfl)) pgs_nil))))
  (pss_cons (ps_for PassesOwn.never rfl (pi_seq (pv 1)) (pg_tup rfl (pgs_cons (pg_name (i := 5) nd rfl (.inl rfl)) (pgs_cons (pg_name (i := 6) nd rfl (.inl rfl)) pgs_nil)))
    (pss_cons (ps_set (i := 7) nd rfl (.inr rfl) (pe_callTy (call_dictP rfl) (by rfl) T.dict bi_dict (pa_cons (pe_lc (own := [("_law_name", 4)]) (g := gName 4) (tt := tYes) rfl nd (pi_seq (pe_op op_cat (pe_dget (hu_of hr) (pv 2) (pv 5) (fun _ _ => rfl)) (pe_dget (hu_of hr) (pv 2) (pv 6) (fun _ _ => rfl)))) (blkOk_by (N := N__law_f_begun_parts) (sc := defScope (topS 52)) (by decide +kernel)) (fun _ _ _ _ _ => (pg_name (i := 4) nd rfl (.inl rfl))) (fun _ _ _ _ _ => pts_nil) (fun _ _ _ _ _ => (pe_tup (pa_cons (pv 4) (pa_cons pe_bl pa_nil))))) pa_nil)))
  (pss_cons (ps_setLc (i := 8) (own := [("_law_name", 4)]) (g := gName 4) rfl nd rfl rfl (sw_true rfl rfl rfl (by decide +kernel)) (pi_seq (pe_ix ix_seq (pv 0) pe_int (fun _ _ => rfl))) (blkOk_by (N := N__law_f_begun_parts) (sc := defScope (topS 52)) (by decide +kernel)) (fun _ _ _ _ _ => (pg_name (i := 4) nd rfl (.inl rfl))) (fun _ _ _ _ _ => (pts_one (pt_cmp (pc_din (hu_of hr) (pv 4) (pv 7))))) (fun _ _ _ _ _ => (pv 4)))
  (pss_cons (ps_dput (hu_of hr) (pv 3) (pe_tup (pa_cons (pv 5) (pa_cons (pv 6) pa_nil))) (pv 8) rfl)
  (pss_one (ps_for PassesOwn.never rfl (pi_seq (pv 8)) (pg_name (i := 4) nd rfl (.inl rfl))
    (pss_one (ps_dput (hu_of hr) (pv 2) (pv 4) (pv 8) rfl))))))))
  (pss_one (ps_ret (pe_callTy (call_dictPT rfl (hu8 hr)) (by rfl) T.dict bi_dict (pa_cons (pe_lc (own := [("_law_road", 9)]) (g := gName 9) rfl nd (pi_seq (pe_ix ix_seq (pv 0) pe_int (fun _ _ => rfl))) (blkOk_by (N := N__law_f_begun_parts) (sc := defScope (topS 52)) (by decide +kernel)) (fun _ _ _ _ _ => (pg_name (i := 9) nd rfl (.inl rfl))) (fun _ _ _ _ _ => (pts_one (pt_cmp (pc_din (hu_of hr) (pv 9) (pv 3))))) (fun _ _ _ _ _ => (pe_tup (pa_cons (pv 9) (pa_cons (pe_callTy (call_list_ofK (Kq := K) rfl) (by rfl) T.list bi_list (pa_cons (pe_dget (hu_of hr) (pv 3) (pv 9) (fun _ _ => rfl)) pa_nil)) pa_nil))))) pa_nil)))))), ?_⟩
  obtain ⟨fa, n, rr, hh, rs, rfl, na1, na2, na3, y⟩ := fo
  have pn2 := pf.n2
  have lns : (ns.map V.str).length = ns.length := List.length_map ..
  have lyb := pk.length
  refine ⟨_, rfl, ix_at (j := 0) (.inr y.t) rfl ⟨n, _, rfl, Sx.sq (.inl y.n), fun J Gq g0 gE wk D1 hD1 => ?_⟩⟩
  refine lc_run wk (fun H' e => gE [] H' (by simp) e) hD1 (fun i acc G => ∃ (ps : List Addr) (nf : PySem.Str → Addr), acc = ps.map V.ref ∧ PrAt G (fun z => .ref (nf z)) ps (ns.take i) ∧ NowAt G (ns.take i) nf (fun z => [z]) ∧ ∀ z ∈ ns.take i, nf z ≠ D1) ⟨[], fun _ => D1, rfl, .nil, fun z hz => by simp at hz, fun z hz => by simp at hz⟩ (fun i u Ga Gb lt I yy => ?_) fun acc G1 e1 hacc rr1 => ?_
  · obtain ⟨rfl, hy⟩ := yy
    obtain ⟨z, rfl, hz, mz⟩ := at_str hy
    obtain ⟨e0, acc, hac, la, ps, nf, rfl, pp, nok, nD⟩ := I
    have nz := nd_take pf.nd hz
    refine ⟨rfl, _, rfl, _, rfl, by show 1 ≤ sizeLine; decide, fun p hp => ⟨by show 2 ≤ sizeLine; decide, fun p2 hp2 => ?_⟩⟩
    have eT : Ext [] Gb (upd (upd Gb p (.lst [.str z])) p2 (.tup [.str z, .ref p])) := (ext_new hp).new hp2
    have hacT := eT.at0 hac
    have pD : p ≠ D1 := fun q => by rw [q, hac] at hp; cases hp
    have p2D : p2 ≠ D1 := fun q => by rw [q] at hp2; rw [(ext_new (L := []) hp).at0 hac] at hp2; cases hp2
    have pp2 : p ≠ p2 := ne_of_none upd_same hp2
    refine lcp hD1 (e0.trans eT) hacT la (by omega) ⟨ps ++ [p2], fun y => if y = z then p else nf y, by simp, ?_, ?_, ?_⟩
    · rw [take_next hz]
      refine pair_snoc (pair_ix pp.length fun j p' y h1 h2 => ?_) ?_
      · have my : y ∈ ns.take i := List.mem_of_getElem? h2
        have h3 := eT.at0 (pair_at pp h1 h2)
        show _ = some (HO.tup [.str y, .ref (if y = z then p else nf y)])
        rw [upd_ne (fun q => by rw [q, hacT] at h3; cases h3), if_neg (fun q => nz (by rw [← q]; exact my))]
        exact h3
      · show _ = some (HO.tup [.str z, .ref (if z = z then p else nf z)])
        rw [upd_ne p2D, if_pos rfl]
        exact upd_same
    · intro y hy
      show _ = some (HO.lst ([V.str y]))
      by_cases e : y = z
      · subst e
        simp only [if_true]
        rw [upd_ne pD, upd_ne pp2]
        exact upd_same
      · simp only [if_neg e]
        rw [take_next hz] at hy
        have hy : y ∈ ns.take i := (List.mem_append.mp hy).resolve_right fun q => e (List.mem_singleton.mp q)
        rw [upd_ne (nD y hy)]
        exact eT.at0 (nok y hy)
    · intro y hy
      show (if y = z then p else nf y) ≠ D1
      by_cases e : y = z
      · rw [if_pos e]
        exact pD
      · rw [if_neg e]
        rw [take_next hz] at hy
        exact nD y ((List.mem_append.mp hy).resolve_right fun q => e (List.mem_singleton.mp q))
  obtain ⟨ps, nf0, rfl, pp, nok0, _⟩ := rr1
  rw [lns, List.take_of_length_le (Nat.le_refl _)] at pp nok0
  refine ⟨D1, ps, _, rfl, .inl (.inl hacc), pr_dict pp, fun nw hnw => ?_⟩
  rw [merge_all pf.nd]
  intro fd hfd
  refine ⟨by show 2 ≤ sizeLine; decide, fun p0 hp0 => ⟨p0, _, rfl, .inl (.inl upd_same), rfl, _, _, rfl, _, _, rfl, rfl, ?_⟩⟩
  have eW : Ext [] G1 (upd G1 nw (.dK (mk ns fun z => .ref (nf0 z)))) := ext_new hnw
  have hk1 : (upd G1 nw (.dK (mk ns fun z => .ref (nf0 z)))) nw = some (.dK (mk ns fun z => .ref (nf0 z))) := upd_same
  have nok1 := nok0.ext eW
  have e1W := e1.trans eW
  have hnwH : H nw = none := e1.free0 hnw
  revert e1W hk1 nok1 hfd hp0
  clear eW
  generalize upd G1 nw (.dK (mk ns fun z => .ref (nf0 z))) = G1
  intro hfd hp0 hk1 nok0 e1
  have eF : Ext [] G1 (upd G1 fd (.dT [])) := ext_new hfd
  have eP0 : Ext [] G1 (upd (upd G1 fd (.dT [])) p0 (.tup [.ref nw, .ref fd])) := eF.new hp0
  have nfp : fd ≠ p0 := ne_of_none upd_same hp0
  have e2 : Ext [] H (upd (upd G1 fd (.dT [])) p0 (.tup [.ref nw, .ref fd])) := e1.trans eP0
  have hk2 := eP0.at0 hk1
  have hf2 : (upd (upd G1 fd (.dT [])) p0 (.tup [.ref nw, .ref fd])) fd = some (.dT []) := by rw [upd_ne nfp]; exact upd_same
  have nok2 := nok0.ext eP0
  have hfdH : H fd = none := e1.free0 hfd
  revert e2 hk2 hf2 nok2
  clear eP0
  generalize upd (upd G1 fd (.dT [])) p0 (.tup [.ref nw, .ref fd]) = G2
  intro e2 hk2 hf2 nok2
  have nwfd : nw ≠ fd := fun q => by rw [q, hf2] at hk2; cases hk2
  refine ⟨_, rfl, r, xs, rfl, Sx.sq (.inl (e2.at0 hr1)), fun J Gq g0 gE wk => ?_⟩
  refine for_it wk (fun i τ G => ∃ (v4 v5 v6 v7 v8 v9 : Option V) (nf : PySem.Str → Addr) (fkv : List (List Key × V)), τ = [some (.ref fa), some (.ref r), some (.ref nw), some (.ref fd), v4, v5, v6, v7, v8, v9] ∧ Ext [nw, fd] G2 G ∧ Ext [] H G ∧ G nw = some (.dK (mk ns fun z => .ref (nf z))) ∧ NowAt G ns nf (bRun ns (bs.take i)).1 ∧ G fd = some (.dT fkv) ∧ fkv.length ≤ i ∧ FndAt G fkv (bRun ns (bs.take i)).2)
    ⟨_, _, _, _, _, _, nf0, [], rfl, .rfl, e2, hk2, nok2, hf2, Nat.le_refl _, fun g => rfl⟩ (fun i τ G _ ⟨_, _, _, _, _, _, _, _, _, e, _⟩ => gE [nw, fd] G (by
      simp only [List.mem_cons, List.not_mem_nil, or_false, not_or]
      exact ⟨ne_of_none hr1 hnwH, ne_of_none hr1 hfdH⟩) e) (fun i u τ Ga Gb lt I yy => ?_) (fun τ Ga I => ?_)
  · obtain ⟨v4, v5, v6, v7, v8, v9, nf, fkv, rfl, e, eH, hk, nok, hf, lf, fok⟩ := I
    obtain ⟨rfl, hy⟩ := yy
    have hei : bs[i]? = some bs[i] := List.getElem?_eq_getElem (by omega)
    generalize bs[i] = ed at hei
    obtain ⟨c, rfl, hcc⟩ := (pair_at pk hy hei).ext0 eH
    obtain ⟨m1, m2⟩ := pf.mem ed (sub ed (List.mem_of_getElem? hei))
    generalize hst : bRun ns (bs.take i) = st at nok fok
    have bok : BOk ns st := by rw [← hst]; exact bRun_ok pn2 _
    have q1 := bok.l1 ed.1
    have q2 := bok.l1 ed.2
    refine ⟨c, _, rfl, .inl (.inl hcc), rfl, _, _, rfl, _, _, rfl, rfl, ?_⟩
    refine ⟨_, rfl, _, rfl, nw, _, rfl, dg_mk hk m1, _, rfl, _, rfl, nw, _, rfl, dg_mk hk m2, _, _, _, _, rfl, rfl, nok _ m1, nok _ m2, Nat.le_of_lt (lenZ (by rw [List.length_map, List.length_map]; omega)), fun p hp => ?_⟩
    have ll : (((st.1 ed.1 ++ st.1 ed.2)).map V.str).length ≤ 120 := by rw [List.length_map, List.length_append]; omega
    refine ⟨p, (st.1 ed.1 ++ st.1 ed.2).map V.str, rfl, Sx.sq (.inl (by rw [List.map_append]; exact upd_same)), fun J2 Gq2 g02 gE2 wk2 D2 hD2 => ?_⟩
    have eP : Ext [] Gb (upd Gb p (.lst ((st.1 ed.1).map V.str ++ (st.1 ed.2).map V.str))) := ext_new hp
    refine lc_run wk2 (fun H' e => gE2 [] H' (by simp) e) hD2 (fun j acc G => ∃ ps : List Addr, acc = ps.map V.ref ∧ PrAt G (fun _ => .bl true) ps ((st.1 ed.1 ++ st.1 ed.2).take j)) ⟨[], rfl, .nil⟩ (fun j u Gd Ge lt2 I2 yy2 => ?_) fun acc G3 e3 hacc3 rr3 => ?_
    · obtain ⟨rfl, hy2⟩ := yy2
      obtain ⟨z, rfl, hz, mz⟩ := at_str hy2
      obtain ⟨e0, acc, hac, la, ps, rfl, pp⟩ := I2
      refine ⟨rfl, _, rfl, by show 2 ≤ sizeLine; decide, fun p hp => ?_⟩
      have eT : Ext [] Ge (upd Ge p (.tup [.str z, .bl true])) := ext_new hp
      have hacT := eT.at0 hac
      refine lcp hD2 (e0.trans eT) hacT la (by omega) ⟨ps ++ [p], by simp, ?_⟩
      rw [take_next hz]
      refine pair_snoc (pair_map pp fun p' y h => ?_) ?_
      · have h3 := eT.at0 h
        rw [upd_ne (fun q => by rw [q, hacT] at h3; cases h3)]
        exact h3
      · rw [upd_ne (fun q => by rw [q, hac] at hp; cases hp)]
        exact upd_same
    obtain ⟨ps3, rfl, pp3⟩ := rr3
    rw [List.length_map, List.take_of_length_le (Nat.le_refl _)] at pp3
    refine ⟨D2, ps3, _, rfl, .inl (.inl hacc3), pr_dict pp3, fun bd hbd => ?_⟩
    have e13 : Ext [] Gb (upd G3 bd (.dK (mergeK [] (mk (st.1 ed.1 ++ st.1 ed.2) fun _ => .bl true)))) := (eP.trans e3).new hbd
    have hk3 : (upd G3 bd (.dK (mergeK [] (mk (st.1 ed.1 ++ st.1 ed.2) fun _ => .bl true)))) bd = some (.dK (mergeK [] (mk (st.1 ed.1 ++ st.1 ed.2) fun _ => .bl true))) := upd_same
    revert e13 hk3
    generalize upd G3 bd (.dK (mergeK [] (mk (st.1 ed.1 ++ st.1 ed.2) fun _ => .bl true))) = G3
    intro e13 hk3
    have eH3 := eH.trans e13
    refine ⟨_, rfl, ix_at (j := 0) (.inr (eH3.at0 y.t)) rfl ⟨n, _, rfl, Sx.sq (.inl (eH3.at0 y.n)), fun J3 Gq3 g03 gE3 wk3 pp hpp => ?_⟩⟩
    refine lc_run wk3 (fun H' e => gE3 [] H' (by simp) e) hpp (Rl ns fun z => if decide (z ∈ st.1 ed.1 ++ st.1 ed.2) = true then some (V.str z) else none) rfl (fun k u Gc Gd lt3 I3 yy3 => ?_) fun acc G4 e4 hacc rr4 => ?_
    · obtain ⟨rfl, hy3⟩ := yy3
      obtain ⟨z, rfl, hz, mz⟩ := at_str hy3
      refine ⟨rfl, _, rfl, _, rfl, bd, _, rfl, DGet.k (k := .inr z) (I3.1.at0 hk3), _, rfl, ?_⟩
      by_cases q : z ∈ st.1 ed.1 ++ st.1 ed.2
      · exact itB (merge_some.mpr q) ⟨_, rfl, lm_push hpp I3 .rfl hz (by omega) (by rw [decide_eq_true q]; rfl)⟩
      · exact itN (by rw [Bool.eq_false_iff]; exact fun y => q (merge_some.mp y)) (lm_skip I3 .rfl hz (by rw [decide_eq_false q]; rfl))
    have rr4 : acc = (ns.take (ns.map V.str).length).filterMap (fun z => if decide (z ∈ st.1 ed.1 ++ st.1 ed.2) = true then some (V.str z) else none) := rr4
    rw [lns, List.take_of_length_le (Nat.le_refl _), strs_map] at rr4
    have hpart : G4 pp = some (.lst ((bPart ns st ed).map V.str)) := by rw [hacc, rr4]; rfl
    obtain ⟨lp, sp⟩ := bPart_ok (st := st) (e := ed) pn2
    generalize hP : bPart ns st ed = part at hpart lp sp
    have e14 : Ext [] Gb G4 := e13.trans e4
    refine ⟨_, rfl, _, rfl, _, rfl, _, rfl, by show 2 ≤ sizeLine; decide, fun p4 h4 => ?_⟩
    have e15 : Ext [] Gb (upd G4 p4 (.tup [.str ed.1, .str ed.2])) := e14.new h4
    refine ⟨fd, _, rfl, DPut.t (k := kE ed) (e15.at0 hf) upd_same (lenZ (by omega)), ?_⟩
    have hk5 : (upd (upd G4 p4 (.tup [.str ed.1, .str ed.2])) fd (.dT (putK fkv (kE ed) (.ref pp)))) nw = some (.dK (mk ns fun z => .ref (nf z))) := by
      rw [upd_ne nwfd]
      exact e15.at0 hk
    have nok5 : NowAt (upd (upd G4 p4 (.tup [.str ed.1, .str ed.2])) fd (.dT (putK fkv (kE ed) (.ref pp)))) ns nf st.1 := (nok.ext e15).upd (e15.at0 hf) fun _ z => by cases z
    have hf5 : (upd (upd G4 p4 (.tup [.str ed.1, .str ed.2])) fd (.dT (putK fkv (kE ed) (.ref pp)))) fd = some (.dT (putK fkv (kE ed) (.ref pp))) := upd_same
    have hpart4 := (ext_new (L := []) (o := .tup [.str ed.1, .str ed.2]) h4).at0 hpart
    have hpart5 : (upd (upd G4 p4 (.tup [.str ed.1, .str ed.2])) fd (.dT (putK fkv (kE ed) (.ref pp)))) pp = some (.lst (part.map V.str)) := by
      rw [upd_ne (fun q => by rw [q, e15.at0 hf] at hpart4; cases hpart4)]
      exact hpart4
    have fok5 : FndAt (upd (upd G4 p4 (.tup [.str ed.1, .str ed.2])) fd (.dT (putK fkv (kE ed) (.ref pp)))) (putK fkv (kE ed) (.ref pp)) (fun g => if g = ed then some part else st.2 g) := ((fok.ext e15).upd (e15.at0 hf) fun _ z => by cases z).put hpart5
    have eN5 : Ext [nw, fd] G2 (upd (upd G4 p4 (.tup [.str ed.1, .str ed.2])) fd (.dT (putK fkv (kE ed) (.ref pp)))) := (e.trans e15.of0).putL (by simp)
    have eH5 : Ext [] H (upd (upd G4 p4 (.tup [.str ed.1, .str ed.2])) fd (.dT (putK fkv (kE ed) (.ref pp)))) := (eH.trans e15).put hfdH
    revert hk5 nok5 hf5 hpart5 fok5 eN5 eH5
    generalize upd (upd G4 p4 (.tup [.str ed.1, .str ed.2])) fd (.dT (putK fkv (kE ed) (.ref pp))) = G5
    intro hk5 nok5 hf5 hpart5 fok5 eN5 eH5
    have npw : pp ≠ nw := fun q => by rw [q, hk5] at hpart5; cases hpart5
    have lpm : (part.map V.str).length = part.length := List.length_map ..
    have hd1 : bPart ns (bRun ns (bs.take i)) ed = part := by rw [hst, hP]
    have hd2 : bRun ns (bs.take (i + 1)) = (fun z => if z ∈ part then part else st.1 z, fun g => if g = ed then some part else st.2 g) := by
      rw [take_next hei, bRun_snoc]
      unfold bStep
      rw [hd1, hst]
    refine ⟨_, rfl, pp, _, rfl, Sx.sq (.inl hpart5), fun J4 Gq4 g04 gE4 wk4 => ?_⟩
    refine for_it wk4 (fun j τ G => ∃ (v4 v9 : Option V), τ = [some (.ref fa), some (.ref r), some (.ref nw), some (.ref fd), v4, some (.str ed.1), some (.str ed.2), some (.ref bd), some (.ref pp), v9] ∧ Ext [nw] G5 G ∧ Ext [] H G ∧ G nw = some (.dK (mk ns fun z => .ref (if z ∈ part.take j then pp else nf z))))
      ⟨_, _, rfl, .rfl, eH5, hk5⟩ (fun j τ G _ ⟨_, _, _, e, _⟩ => gE4 [nw] G (by simpa using npw) e) (fun j u τ Gc Gd lt4 I4 yy4 => ?_) (fun τ Gc I4 => ?_)
    · obtain ⟨v4, v9, rfl, e6, eH6, hk6⟩ := I4
      obtain ⟨rfl, hy4⟩ := yy4
      obtain ⟨z, rfl, hz, mz⟩ := at_str hy4
      refine ⟨_, rfl, _, rfl, _, rfl, nw, _, rfl, DPut.k (k := .inr z) hk6 (lenZ (by rw [List.length_map]; omega)), ?_⟩
      refine ⟨_, _, rfl, e6.putL (by simp), eH6.put hnwH, ?_⟩
      rw [upd_same, mk_put (sp z mz)]
      refine congrArg (fun q => some (HO.dK q)) (mk_congr fun w' hw => ?_)
      rw [take_next hz]
      by_cases q : w' = z
      · subst q
        simp
      · simp [q]
    · obtain ⟨v4, v9, rfl, e6, eH6, hk6⟩ := I4
      rw [lpm, List.take_of_length_le (Nat.le_refl _)] at hk6
      have ll6 : ∀ b l, b ≠ nw → G5 b = some (.lst l) → Gc b = some (.lst l) := fun b l n h => e6.at1 n h
      refine ⟨_, _, _, _, _, _, fun z => if z ∈ part then pp else nf z, putK fkv (kE ed) (.ref pp), rfl, eN5.trans (e6.wide (by simp)), eH6, hk6, ?_, e6.at1 (Ne.symm nwfd) hf5, Nat.le_trans (length_putK ..) (by omega), ?_⟩
      · rw [hd2]
        intro z hz
        show Gc (if z ∈ part then pp else nf z) = some (.lst ((if z ∈ part then part else st.1 z).map V.str))
        by_cases q : z ∈ part
        · rw [if_pos q, if_pos q]
          exact ll6 _ _ npw hpart5
        · rw [if_neg q, if_neg q]
          exact ll6 _ _ (fun y => by have w' := nok5 z hz; rw [y, hk5] at w'; cases w') (nok5 z hz)
      · rw [hd2]
        exact fok5.map fun b l hb => ll6 b l (fun y => by rw [y, hk5] at hb; cases hb) hb
  obtain ⟨v4, v5, v6, v7, v8, v9, nf, fkv, rfl, e, eH, hk, nok, hf, lf, fok⟩ := I
  rw [lyb, List.take_of_length_le (Nat.le_refl _)] at fok
  have lts := y.p.length
  have pel := pf.el
  refine ⟨_, rfl, ix_at (j := 1) (.inr (eH.at0 y.t)) rfl ⟨rr, _, rfl, Sx.sq (.inl (eH.at0 y.r)), fun J2 Gq2 g02 gE2 wk2 D2 hD2 => ?_⟩⟩
  refine lc_run wk2 (fun H' e => gE2 [] H' (by simp) e) hD2 (fun i acc G => ∃ (ps : List Addr) (kvs : List (List Key × V)), acc = ps.map V.ref ∧ Paired (fun p (kv : List Key × V) => ∃ t, G p = some (.tup [.ref t, kv.2]) ∧ G t = some (.tup (kv.1.map kV))) ps kvs ∧
    Paired (fun kv p => PtAt H G kv p ∧ kv.2 ≠ .ref D2) kvs ((es.take i).filterMap fun e => ((bRun ns bs).2 e).map fun p => (e, p))) ⟨[], [], rfl, .nil, .nil⟩ (fun k u Gc Gd lt2 I2 yy2 => ?_) fun acc G3 e3 hk3 r3 => ?_
  · obtain ⟨rfl, hy2⟩ := yy2
    obtain ⟨e0, acc, hacc, la, ps, kvs, rfl, pt, pa⟩ := I2
    have hei : es[k]? = some es[k] := List.getElem?_eq_getElem (by omega)
    generalize es[k] = ed at hei
    obtain ⟨c, rfl, hcc⟩ := ((pair_at y.p hy2 hei).ext0 eH).ext0 e0
    refine ⟨rfl, _, rfl, _, rfl, fd, _, rfl, DGet.t (k := kE ed) (e0.at0 hf) hcc, _, rfl, ?_⟩
    cases q : (bRun ns bs).2 ed with
    | none =>
      refine itN (by rw [fok.none q]; rfl) ⟨e0, _, hacc, Nat.le_succ_of_le la, ps, kvs, rfl, pt, ?_⟩
      rw [take_next hei, List.filterMap_append]
      simp only [List.filterMap_cons, List.filterMap_nil, q, Option.map_none, List.append_nil]
      exact pa
    | some p =>
      obtain ⟨b, w1, w2⟩ := fok.some q
      refine itB (by rw [w1]; rfl) ⟨_, rfl, _, rfl, _, rfl, fd, .ref b, rfl, by rw [← w1]; exact DGet.t (k := kE ed) (e0.at0 hf) hcc, b, _, rfl, .inl (.inl (.inl (e0.at0 w2))), fun l hl => ⟨by show 2 ≤ sizeLine; decide, fun p2 hp2 => ?_⟩⟩
      have eL : Ext [] Gd (upd (upd Gd l (.lst (p.map V.str))) p2 (.tup [.ref c, .ref l])) := (ext_new hl).new hp2
      have hl2 : (upd (upd Gd l (.lst (p.map V.str))) p2 (.tup [.ref c, .ref l])) l = some (.lst (p.map V.str)) := by
        rw [upd_ne (ne_of_none upd_same hp2)]
        exact upd_same
      have nlD : l ≠ D2 := fun q => by rw [q, hacc] at hl; cases hl
      have haccL := eL.at0 hacc
      have hp22 : (upd (upd Gd l (.lst (p.map V.str))) p2 (.tup [.ref c, .ref l])) p2 = some (.tup [.ref c, .ref l]) := upd_same
      have hccL := eL.at0 hcc
      have hlH := (eH.trans e0).free0 hl
      revert eL hl2 haccL hp22 hccL
      generalize upd (upd Gd l (.lst (p.map V.str))) p2 (.tup [.ref c, .ref l]) = GL
      intro eL hl2 haccL hp22 hccL
      have keepT : ∀ o b' l', GL b' = some (.tup l') → (upd GL D2 o) b' = some (.tup l') := fun o b' l' h => by
        rw [upd_ne (fun q => by rw [q, haccL] at h; cases h)]
        exact h
      refine lcp hD2 (e0.trans eL) haccL la (by omega) ⟨ps ++ [p2], kvs ++ [(kE ed, .ref l)], by simp, ?_, ?_⟩
      · exact pair_snoc (pair_map pt fun p' kv ⟨t, z1, z2⟩ => ⟨t, keepT _ _ _ (eL.at0 z1), keepT _ _ _ (eL.at0 z2)⟩) ⟨c, keepT _ _ _ hp22, keepT _ _ _ hccL⟩
      · rw [take_next hei, List.filterMap_append]
        simp only [List.filterMap_cons, List.filterMap_nil, q, Option.map_some]
        refine pair_snoc (pair_map pa fun kv p' ⟨⟨z1, b', z2, z3, z4⟩, z5⟩ => ⟨⟨z1, b', z2, ?_, z4⟩, z5⟩) ⟨⟨rfl, l, rfl, by rw [upd_ne nlD]; exact hl2, hlH⟩, fun w' => nlD (V.ref.inj w')⟩
        rw [upd_ne (fun w' => z5 (by rw [z2, w']))]
        exact eL.at0 z3
  · obtain ⟨ps, kvs, rfl, pt, pa⟩ := r3
    rw [List.take_of_length_le (by omega)] at pa
    refine ⟨D2, ps, kvs, rfl, .inl (.inl hk3), pair_map pt fun p kv ⟨t, z1, z2⟩ => ⟨t, .inl (.inl z1), z2⟩, fun d hd => ?_⟩
    have pa' := pair_map pa fun kv p h => h.1
    have hm : merA [] kvs = kvs := merA_new (acc := []) (by rw [List.nil_append]; exact keys_nd pa' (parts_sub.nodup pf.acy.nodup))
    rw [hm]
    have eD : Ext [] G3 (upd G3 d (.dT kvs)) := ext_new hd
    have eHD := (eH.trans e3).trans eD
    exact q _ d kvs eHD ((eH.trans e3).free0 hd) upd_same (pair_map pa' fun kv p h => h.mono fun b' l' hb => eD.at0 hb)
end
end K70

/-! K7P: the law's feasts; odd things. -/
namespace K70
open PySem PySem.Spec PyProof.Rows L2 LamX
section
variable {P : Program} {w : World} {K : PySem.W.Frag} {mg : Str → Option Value} {base : Heap} {CV CG CB : Addr}
def spFSoFar : Sp := fun vs H Q _ => ∃ (a r : Addr) (f : V) (xs : List V) (ns : List PySem.Str) (es bs : List Ed) (hs : List Int), vs = [f, .ref r] ∧ Fo a H f ns es hs ∧ Pf ns es hs ∧ H r = some (.lst xs) ∧ Paired (TupE H) xs bs ∧ (∀ e ∈ bs, e ∈ es) ∧ bs.length ≤ 500 ∧
  ∀ H' c, Ext [] H H' → H' c = some (.dK (mk ns fun z => .int (bCnt ns es bs z : Nat))) → Q (.ref c) H'
theorem Fo.ext0 {H H' : Hp} {a : Addr} {f : V} {ns : List PySem.Str} {es : List Ed} {hs : List Int} (h : Fo a H f ns es hs) (e : Ext [] H H') : Fo a H' f ns es hs := by
  obtain ⟨fa, n, r, hh, rs, rfl, n1, n2, n3, y⟩ := h
  exact ⟨fa, n, r, hh, rs, rfl, n1, n2, n3, e.at0 y.t, e.at0 y.n, e.at0 y.r, pair_map y.p fun u w z => z.ext0 e, e.at0 y.h⟩
abbrev N__law_f_so_far : List PySem.Str := ["_law_form", "_law_begun", "_law_found", "_law_name", "_law_part"]
theorem sc__law_f_so_far : FnScope N__law_f_so_far ["_law_form", "_law_begun"] (defScope (topS 53)) := ⟨rfl, rfl, rfl, by decide +kernel, rfl, by decide +kernel, by decide +kernel⟩
theorem bb__law_f_so_far : BindsBy "_law_f_so_far" (topS 53) ["_law_form", "_law_begun"] := fun _ _ _ _ _ _ us hl => match us, hl with | [_, _], _ => rfl
theorem ok_fsofar (T : Tx P K mg CV CG CB) (D : Df K mg "_law_f_so_far" (topS 53)) (c__law_f_begun_parts : Cl P w K mg base CX0 1 "_law_f_begun_parts" spFParts) : Cl P w K mg base CX0 2 "_law_f_so_far" spFSoFar := by
  refine D.cl0 sc__law_f_so_far bb__law_f_so_far (fun vs H Q E ⟨x, _, _, _, _, _, _, _, e, _⟩ => by rw [e]; rfl) fun f cdv A outer s H vs Q E hr h => ?_
  have nd := sc__law_f_so_far.nd
  obtain ⟨a, r, f, xs, ns, es, bs, hs, rfl, fo, pf, hr1, pk, sub, lb, q⟩ := h
  refine ⟨_, (pss_cons (ps_set (i := 2) nd rfl (.inl rfl) (pe_callTy (call_dictP rfl) (by rfl) T.dict bi_dict (pa_cons (pe_lc (own := [("_law_name", 3)]) (g := gName 3) (tt := tYes) rfl nd (pi_seq (pe_ix ix_seq (pv 0) pe_int (fun _ _ => rfl))) (blkOk_by (N := N__law_f_so_far) (sc := defScope (topS 53)) (by decide +kernel)) (fun _ _ _ _ _ => (pg_name (i := 3) nd rfl (.inl rfl))) (fun _ _ _ _ _ => pts_nil) (fun _ _ _ _ _ => (pe_tup (pa_cons (pv 3) (pa_cons pe_int pa_nil))))) pa_nil)))
  (pss_cons (ps_for PassesOwn.never rfl (pi_valsT (pe_k c__law_f_begun_parts hr pass0 (pa_cons (pv 0) (pa_cons (pv 1) pa_nil)))) (pg_name (i := 4) nd rfl (.inl rfl))
    (pss_one (ps_for PassesOwn.never rfl (pi_seq (pv 4)) (pg_name (i := 3) nd rfl (.inl rfl))
    (pss_one (ps_dput (hu_of hr) (pv 2) (pv 3) (pe_op op_add (pe_dget (hu_of hr) (pv 2) (pv 3) (fun _ _ => rfl)) pe_int) rfl)))))
  (pss_one (ps_ret (pv 2))))), ?_⟩
  have fo0 := fo
  obtain ⟨fa, n, rr, hh, rs, rfl, na1, na2, na3, y⟩ := fo
  have pn2 := pf.n2
  have pel := pf.el
  have lns : (ns.map V.str).length = ns.length := List.length_map ..
  refine ⟨_, rfl, ix_at (j := 0) (.inr y.t) rfl ⟨n, _, rfl, Sx.sq (.inl y.n), fun J Gq g0 gE wk D1 hD1 => ?_⟩⟩
  refine lc_run wk (fun H' e => gE [] H' (by simp) e) hD1 (fun i acc G => ∃ ps : List Addr, acc = ps.map V.ref ∧ PrAt G (fun _ => .int 0) ps (ns.take i)) ⟨[], rfl, .nil⟩ (fun i u Ga Gb lt I yy => ?_) fun acc G1 e1 hacc rr1 => ?_
  · obtain ⟨rfl, hy⟩ := yy
    obtain ⟨z, rfl, hz, mz⟩ := at_str hy
    obtain ⟨e0, acc, hac, la, ps, rfl, pp⟩ := I
    refine ⟨rfl, _, rfl, by show 2 ≤ sizeLine; decide, fun p hp => ?_⟩
    have eT : Ext [] Gb (upd Gb p (.tup [.str z, .int 0])) := ext_new hp
    have hacT := eT.at0 hac
    refine lcp hD1 (e0.trans eT) hacT la (by omega) ⟨ps ++ [p], by simp, ?_⟩
    rw [take_next hz]
    refine pair_snoc (pair_map pp fun p' y h => ?_) ?_
    · have h3 := eT.at0 h
      rw [upd_ne (fun q => by rw [q, hacT] at h3; cases h3)]
      exact h3
    · rw [upd_ne (fun q => by rw [q, hac] at hp; cases hp)]
      exact upd_same
  obtain ⟨ps, rfl, pp⟩ := rr1
  rw [lns, List.take_of_length_le (Nat.le_refl _)] at pp
  refine ⟨D1, ps, _, rfl, .inl (.inl hacc), pr_dict pp, fun cn hcn => ?_⟩
  rw [merge_all pf.nd]
  have eW : Ext [] G1 (upd G1 cn (.dK (mk ns fun _ => .int 0))) := ext_new hcn
  have hk1 : (upd G1 cn (.dK (mk ns fun _ => .int 0))) cn = some (.dK (mk ns fun _ => .int 0)) := upd_same
  have e1W := e1.trans eW
  have hcnH : H cn = none := e1.free0 hcn
  revert e1W hk1
  generalize upd G1 cn (.dK (mk ns fun _ => .int 0)) = G2
  intro hk1 e1
  refine ⟨_, rfl, _, rfl, a, r, .ref fa, xs, ns, es, bs, hs, rfl, fo0.ext0 e1, pf, e1.at0 hr1, pair_map pk fun u w z => z.ext0 e1, sub, lb, fun G3 d kvs e3 f3 h3 pt => ?_⟩
  have pok := bParts_ok (bs := bs) pn2 (show es.length ≤ 100 by omega)
  have lkp := pt.length
  have q : ∀ H' c, Ext [] H H' → H' c = some (.dK (mk ns fun z => .int (cntP (bParts ns es bs) z : Nat))) → Q (.ref c) H' := q
  generalize bParts ns es bs = ps at pt pok lkp q
  refine ⟨d, kvs, rfl, h3, fun od => ?_⟩
  have hk3 := e3.at0 hk1
  have ncd : cn ≠ d := fun w' => by rw [w', h3] at hk3; cases hk3
  have hdH : H d = none := e1.free0 f3
  have eF : Ext [] H (upd G3 d (.frz od (.dT kvs))) := (e1.trans e3).put hdH
  refine for_it walk_valsT (fun i τ G => ∃ v3 v4, τ = [some (.ref fa), some (.ref r), some (.ref cn), v3, v4] ∧ Ext [cn] (upd G3 d (.frz od (.dT kvs))) G ∧ Ext [] H G ∧ G cn = some (.dK (mk ns fun z => .int (cntP (ps.take i) z : Nat))))
    ⟨_, _, rfl, .rfl, eF, by rw [upd_ne ncd]; exact hk3⟩ (fun i τ G _ ⟨_, _, _, e, _⟩ => e.at1 (Ne.symm ncd) upd_same) (fun i u τ Ga Gb lt I yy => ?_) (fun τ Ga I => ?_)
  · obtain ⟨v3, v4, rfl, e, eH, hk⟩ := I
    obtain ⟨rfl, k, hy⟩ := yy
    have hpi : ps[i]? = some ps[i] := List.getElem?_eq_getElem (by omega)
    generalize ps[i] = p at hpi
    obtain ⟨_, b, hb, hl, _⟩ := pair_at pt hy hpi
    have hb : u = .ref b := hb
    subst hb
    obtain ⟨lp, sp⟩ := pok.s p (List.mem_of_getElem? hpi)
    have nbd : b ≠ d := fun w' => by rw [w', h3] at hl; cases hl
    have hl1 : (upd G3 d (.frz od (.dT kvs))) b = some (.lst (p.2.map V.str)) := by
      rw [upd_ne nbd]
      exact hl
    have nbc : b ≠ cn := fun w' => by rw [w', hk3] at hl; cases hl
    have hl2 := e.at1 nbc hl1
    refine ⟨_, rfl, b, _, rfl, Sx.sq (.inl hl2), fun J4 Gq4 g04 gE4 wk4 => ?_⟩
    refine for_it wk4 (fun j τ G => ∃ v3, τ = [some (.ref fa), some (.ref r), some (.ref cn), v3, some (.ref b)] ∧ Ext [cn] Gb G ∧ Ext [] H G ∧ G cn = some (.dK (mk ns fun z => .int ((cntP (ps.take i) z + (p.2.take j).count z : Nat)))))
      ⟨_, rfl, .rfl, eH, by simpa using hk⟩ (fun j τ G _ ⟨_, _, e, _⟩ => gE4 [cn] G (by simpa using nbc) e) (fun j u τ Gc Gd lt4 I4 yy4 => ?_) (fun τ Gc I4 => ?_)
    · obtain ⟨v3, rfl, e6, eH6, hk6⟩ := I4
      obtain ⟨rfl, hy4⟩ := yy4
      obtain ⟨z, rfl, hz, mz⟩ := at_str hy4
      refine ⟨_, rfl, _, rfl, cn, _, rfl, dg_mk hk6 (sp z mz), _, _, rfl, rfl, _, rfl, _, rfl, cn, _, rfl, DPut.k (k := .inr z) hk6 (lenZ (by rw [List.length_map]; omega)), ?_⟩
      refine ⟨_, rfl, e6.putL (by simp), eH6.put hcnH, ?_⟩
      rw [upd_same, mk_put (sp z mz)]
      refine congrArg (fun q => some (HO.dK q)) (mk_congr fun w' hw => ?_)
      rw [take_next hz, cnt_snoc]
      by_cases q : w' = z
      · subst q
        rw [if_pos rfl, if_pos rfl]
        exact congrArg V.int (by push_cast; omega)
      · rw [if_neg q, if_neg q]
        rfl
    · obtain ⟨v3, rfl, e6, eH6, hk6⟩ := I4
      rw [List.length_map, List.take_of_length_le (Nat.le_refl _)] at hk6
      refine ⟨_, _, rfl, e.trans e6, eH6, ?_⟩
      rw [hk6, take_next hpi]
      exact congrArg (fun q => some (HO.dK q)) (mk_congr fun w' hw => by rw [cntP_snoc])
  · obtain ⟨v3, v4, rfl, e, eH, hk⟩ := I
    rw [lkp, List.take_of_length_le (Nat.le_refl _)] at hk
    exact ⟨_, rfl, q Ga cn eH hk⟩
/-! ### odd valleys -/
/-- at l: what is no valley -/
structure OddV (G : Hp) (l : Addr) (fa n r h : Addr) (ns : List PySem.Str) (vs : List V) : Prop where
  ex : ∃ (z : PySem.Str) (p1 p2 p3 : Addr), vs = [.non, .int 5, .str z, .bl true, .ref p1, .ref p2, .ref p3] ∧ G p1 = some (.lst (ns.map .str)) ∧ G p2 = some (.tup [.ref n, .ref r, .ref h]) ∧ G p3 = some (.dK [])
def spOddV : Sp := fun vs H Q _ => ∃ (fa n r h : Addr) (rs : List V) (ns : List PySem.Str) (es : List Ed) (hs : List Int), vs = [.ref fa] ∧ FoAt H fa n r h rs ns es hs ∧ 1 ≤ ns.length ∧ ∀ H' l vs, Ext [] H H' → H l = none → H' l = some (.lst vs) → OddV H' l fa n r h ns vs → Q (.ref l) H'
abbrev N__law_f_odd_valleys : List PySem.Str := ["_law_form"]
theorem sc__law_f_odd_valleys : FnScope N__law_f_odd_valleys ["_law_form"] (defScope (topS 49)) := ⟨rfl, rfl, rfl, by decide +kernel, rfl, by decide +kernel, by decide +kernel⟩
theorem bb__law_f_odd_valleys : BindsBy "_law_f_odd_valleys" (topS 49) ["_law_form"] := fun _ _ _ _ _ _ us hl => match us, hl with | [_], _ => rfl
theorem ok_oddv (T : Tx P K mg CV CG CB) (D : Df K mg "_law_f_odd_valleys" (topS 49)) : Cl P w K mg base CX0 1 "_law_f_odd_valleys" spOddV := by
  refine D.cl0 sc__law_f_odd_valleys bb__law_f_odd_valleys (fun vs H Q E ⟨_, _, _, _, _, _, _, _, e, _⟩ => by rw [e]; rfl) fun f cdv A outer s H vs Q E hr h => ?_
  have nd := sc__law_f_odd_valleys.nd
  obtain ⟨fa, n, r, hh, rs, ns, es, hs, rfl, y, n1, q⟩ := h
  refine ⟨_, (pss_one (ps_ret (pe_lst (pa_cons pe_non (pa_cons pe_int (pa_cons (pe_ix ix_seq (pe_ix ix_seq (pv 0) pe_int (fun _ _ => rfl)) pe_int (fun _ _ => rfl)) (pa_cons pe_bl (pa_cons (pe_callTy call_list_of (by rfl) T.list bi_list (pa_cons (pe_ix ix_seq (pv 0) pe_int (fun _ _ => rfl)) pa_nil)) (pa_cons (pe_tup (pa_cons (pe_ix ix_seq (pv 0) pe_int (fun _ _ => rfl)) (pa_cons (pe_ix ix_seq (pv 0) pe_int (fun _ _ => rfl)) (pa_cons (pe_ix ix_seq (pv 0) pe_int (fun _ _ => rfl)) pa_nil)))) (pa_cons pe_dnewK pa_nil)))))))))), ?_⟩
  have h0 : (ns.map V.str)[0]? = some (.str ns[0]) := by rw [List.getElem?_map, List.getElem?_eq_getElem (by omega)]; rfl
  refine ⟨_, rfl, ix_at (j := 0) (.inr y.t) rfl (ix_at (j := 0) (.inl y.n) h0 ?_)⟩
  refine ⟨_, rfl, ix_at (j := 0) (.inr y.t) rfl ⟨n, _, rfl, .inl (.inl (.inl y.n)), fun p1 hp1 => ?_⟩⟩
  have e1 : Ext [] H (upd H p1 (.lst (ns.map V.str))) := ext_new hp1
  have g1 : (upd H p1 (.lst (ns.map V.str))) p1 = some (.lst (ns.map V.str)) := upd_same
  revert e1 g1
  generalize upd H p1 (.lst (ns.map V.str)) = G1
  intro e1 g1
  have t1 := e1.at0 y.t
  refine ⟨_, rfl, ix_at (j := 0) (.inr t1) rfl ⟨_, rfl, ix_at (j := 1) (.inr t1) rfl ⟨_, rfl, ix_at (j := 2) (.inr t1) rfl ⟨by show 3 ≤ sizeLine; decide, fun p2 hp2 => ?_⟩⟩⟩⟩
  have e2 : Ext [] G1 (upd G1 p2 (.tup [.ref n, .ref r, .ref hh])) := ext_new hp2
  have g2 : (upd G1 p2 (.tup [.ref n, .ref r, .ref hh])) p2 = some (.tup [.ref n, .ref r, .ref hh]) := upd_same
  revert e2 g2
  generalize upd G1 p2 (.tup [.ref n, .ref r, .ref hh]) = G2
  intro e2 g2 p3 hp3
  have e3 : Ext [] G2 (upd G2 p3 (.dK [])) := ext_new hp3
  refine ⟨by show 7 ≤ sizeLine; decide, fun l hl => ?_⟩
  have e4 := e3.new (o := .lst [.non, .int 5, .str ns[0], .bl true, .ref p1, .ref p2, .ref p3]) hl
  have eT := (e1.trans e2).trans e4
  exact q _ l _ eT (((e1.trans e2).trans e3).free0 hl) upd_same ⟨ns[0], p1, p2, p3, rfl, (e2.trans e4).at0 g1, e4.at0 g2, by rw [upd_ne (ne_of_none upd_same hl)]; exact upd_same⟩
end
end K70

/-! K7Q: odd things begun. -/
namespace K70
open PySem PySem.Spec PyProof.Rows L2 LamX
theorem newo {H : Hp} {p : Addr} {o : HO} (h : H p = none) : ∃ G, upd H p o = G ∧ Ext [] H G ∧ G p = some o := ⟨_, rfl, ext_new h, upd_same⟩
/-- no begun list of the valley; like itself -/
def OddB (H : Hp) (ns : List PySem.Str) (es : List Ed) (v : V) : Prop := KnOdd H ns es v ∧ Al 6 H v v
theorem KnOdd.ext {H H' : Hp} {ns : List PySem.Str} {es : List Ed} {v : V} (e : Ext [] H H') (h : KnOdd H ns es v) : KnOdd H' ns es v := by
  rcases h with ⟨s, k, n⟩ | ⟨b, xs, os, e1, h1, h2, h3, h4⟩
  · exact .inl ⟨s, k.ext e, n⟩
  · exact .inr ⟨b, xs, os, e1, h1.ext e, h2, pair_map h3 fun x o r => r.ext e, h4⟩
theorem OddB.ext {H H' : Hp} {ns : List PySem.Str} {es : List Ed} {v : V} (e : Ext [] H H') (h : OddB H ns es v) : OddB H' ns es v := ⟨h.1.ext e, h.2.ext e⟩
theorem al_up : ∀ {n : Nat} {H : Hp} {x y : V}, Al n H x y → Al (n + 1) H x y := by
  have key : ∀ n, ∀ m, m ≤ n → ∀ (H : Hp) (x y : V), Al m H x y → Al (m + 1) H x y := fun n => by
    induction n with
    | zero =>
      intro m hm H x y h
      have : m = 0 := by omega
      subst this
      exact h.elim
    | succ n ih =>
      intro m hm H x y h
      cases m with
      | zero => exact h.elim
      | succ m =>
        rcases al_cases h with ⟨rfl, h2⟩ | ⟨a, b, xs, ys, e1, e2, h2, l, p⟩ | ⟨k, rfl, a, b, e1, e2, d1, d2, f⟩
        · exact al_atm h2
        · exact al_seq ⟨a, b, xs, ys, e1, e2, h2, l, pair_map p fun u v z => ih m (by omega) H u v z⟩
        · exact al_dct (n := k + 1) ⟨a, b, e1, e2, d1, d2, fun H' ps qs e a1 a2 => by
            obtain ⟨l, p⟩ := f H' ps qs e a1 a2
            exact ⟨l, pair_map p fun u v z => ⟨ih k (by omega) H' _ _ z.1, ih k (by omega) H' _ _ z.2⟩⟩⟩
  exact fun {n H x y} h => key n n (Nat.le_refl _) H x y h
theorem al_to {n m : Nat} {H : Hp} {x y : V} (h : Al n H x y) (le : n ≤ m) : Al m H x y := by
  induction le with
  | refl => exact h
  | step _ ih => exact al_up ih
theorem pair_self {α : Type} {F : α → α → Prop} : ∀ {xs : List α}, (∀ x ∈ xs, F x x) → Paired F xs xs
  | [], _ => .nil
  | x :: xs, h => .cons (h x (by simp)) (pair_self fun y hy => h y (List.mem_cons_of_mem _ hy))
theorem al_lst {n : Nat} {H : Hp} {b : Addr} {xs : List V} (h : H b = some (.lst xs)) (l : xs.length ≤ 5000) (k : ∀ x ∈ xs, Al n H x x) : Al (n + 1) H (.ref b) (.ref b) := al_seq ⟨b, b, xs, xs, rfl, rfl, .inl ⟨h, h⟩, l, pair_self k⟩
theorem al_tup {n : Nat} {H : Hp} {b : Addr} {xs : List V} (h : H b = some (.tup xs)) (l : xs.length ≤ 5000) (k : ∀ x ∈ xs, Al n H x x) : Al (n + 1) H (.ref b) (.ref b) := al_seq ⟨b, b, xs, xs, rfl, rfl, .inr ⟨h, h⟩, l, pair_self k⟩
theorem al_te {n : Nat} {H : Hp} {v : V} {e : Ed} (h : TupE H v e) : Al (n + 2) H v v := by
  obtain ⟨b, rfl, h⟩ := h
  refine al_tup (n := n + 1) h (by show 2 ≤ 5000; decide) fun x hx => ?_
  simp only [List.mem_cons, List.not_mem_nil, or_false] at hx
  rcases hx with rfl | rfl
  · exact al_atm (.str _)
  · exact al_atm (.str _)
theorem rd_good {H : Hp} {ns : List PySem.Str} {es : List Ed} {v : V} {e : Ed} (h : TupE H v e) (m : e ∈ es) : RdIn H ns es v (some e) := by
  obtain ⟨b, rfl, h⟩ := h
  exact .good (.inr h) m (.inl rfl)
theorem rd_list {H : Hp} {ns : List PySem.Str} {es : List Ed} : ∀ {xs : List V} {bs : List Ed}, Paired (TupE H) xs bs → (∀ e ∈ bs, e ∈ es) → Paired (RdIn H ns es) xs (bs.map some)
  | [], [], _, _ => .nil
  | _ :: _, b :: _, .cons r p, m => .cons (rd_good r (m b (by simp))) (rd_list p fun e he => m e (List.mem_cons_of_mem _ he))
theorem al_tes {n : Nat} {H : Hp} {xs : List V} {bs : List Ed} (h : Paired (TupE H) xs bs) : ∀ x ∈ xs, Al (n + 2) H x x := by
  induction h with
  | nil => intro x hx; cases hx
  | cons r _ ih =>
    intro x hx
    rcases List.mem_cons.mp hx with rfl | hx
    · exact al_te r
    · exact ih x hx
theorem pair_app {α β : Type} {F : α → β → Prop} : ∀ {a : List α} {b : List β} {c : List α} {d : List β}, Paired F a b → Paired F c d → Paired F (a ++ c) (b ++ d)
  | [], [], _, _, _, h => h
  | _ :: _, _ :: _, _, _, .cons r t, h => .cons r (pair_app t h)
section
variable {P : Program} {w : World} {K : PySem.W.Frag} {mg : Str → Option Value} {base : Heap} {CV CG CB : Addr}
theorem odd_kd {H : Hp} {ns : List PySem.Str} {es : List Ed} {v : V} {s : String} (k : Kd H v s) (n : (kb s "list" || kb s "tuple") = false := by decide) : KnOdd H ns es v := .inl ⟨s, k, n⟩
theorem ent_dK {H : Hp} {d : Addr} (h : H d = some (.dK [])) : Al 6 H (.ref d) (.ref d) := al_to (al_dct (n := 0) ⟨d, d, rfl, rfl, .inl ⟨_, h⟩, .inl ⟨_, h⟩, fun H' ps qs e a1 a2 => by
  have h' := e _ _ h (fun _ z => by cases z)
  have key : ∀ ps, EntOf H' d ps → ps = [] := fun ps a => by
    rcases a with ⟨kvs, g, x⟩ | ⟨kvs, g, x⟩
    · rw [h'] at g
      cases g
      exact x
    · rw [h'] at g
      cases g
  rw [key ps a1, key qs a2]
  exact ⟨Nat.zero_le _, .nil⟩⟩) (by decide)
theorem ent_dT {H : Hp} {d : Addr} {e0 : Ed} (h : H d = some (.dT [(kE e0, .int 1)])) : Al 6 H (.ref d) (.ref d) := al_dct (n := 3) ⟨d, d, rfl, rfl, .inr ⟨_, h⟩, .inr ⟨_, h⟩, fun H' ps qs e a1 a2 => by
  have h' := e _ _ h (fun _ z => by cases z)
  have key : ∀ ps, EntOf H' d ps → ∃ q, ps = [(.ref q, .int 1)] ∧ H' q = some (.tup [.str e0.1, .str e0.2]) := fun ps a => by
    rcases a with ⟨kvs, g, x⟩ | ⟨kvs, g, x⟩
    · rw [h'] at g
      cases g
    · rw [h'] at g
      cases g
      cases x with
      | cons r t =>
        cases t
        obtain ⟨⟨q, z1, z2⟩, z3⟩ := r
        exact ⟨q, by rw [← z1]; exact congrArg (fun y => [(_, y)]) z3, z2⟩
  obtain ⟨q1, rfl, g1⟩ := key ps a1
  obtain ⟨q2, rfl, g2⟩ := key qs a2
  exact ⟨by show 1 ≤ 5000; decide, .cons ⟨al_to (al_seq (n := 1) ⟨q1, q2, _, _, rfl, rfl, .inr ⟨g1, g2⟩, by show 2 ≤ 5000; decide, .cons (al_atm (.str _)) (.cons (al_atm (.str _)) .nil)⟩) (by decide), al_atm (.int _)⟩ .nil⟩⟩
def spOddB : Sp := fun vs H Q _ => ∃ (fa n r h : Addr) (rs : List V) (ns : List PySem.Str) (es : List Ed) (hs : List Int), vs = [.ref fa] ∧ FoAt H fa n r h rs ns es hs ∧ Pf ns es hs ∧ 1 ≤ es.length ∧ ∀ H' l vs, Ext [] H H' → H l = none → H' l = some (.lst vs) → vs.length ≤ 100 → (∀ v ∈ vs, OddB H' ns es v) → Q (.ref l) H'
abbrev N__law_f_odd_begun : List PySem.Str := ["_law_form", "_law_roads", "_law_first", "_law_found"]
theorem sc__law_f_odd_begun : FnScope N__law_f_odd_begun ["_law_form"] (defScope (topS 54)) := ⟨rfl, rfl, rfl, by decide +kernel, rfl, by decide +kernel, by decide +kernel⟩
theorem bb__law_f_odd_begun : BindsBy "_law_f_odd_begun" (topS 54) ["_law_form"] := fun _ _ _ _ _ _ us hl => match us, hl with | [_], _ => rfl
theorem ok_oddb (T : Tx P K mg CV CG CB) (D : Df K mg "_law_f_odd_begun" (topS 54)) : Cl P w K mg base CX0 1 "_law_f_odd_begun" spOddB := by
  refine D.cl0 sc__law_f_odd_begun bb__law_f_odd_begun (fun vs H Q E ⟨_, _, _, _, _, _, _, _, e, _⟩ => by rw [e]; rfl) fun f cdv A outer s H vs Q E hr h => ?_
  have nd := sc__law_f_odd_begun.nd
  obtain ⟨fa, n, r, hh, rs, ns, es, hs, rfl, y, pf, e1, q⟩ := h
  refine ⟨_, (pss_cons (ps_par (i := 1) (j := 2) rfl nd rfl rfl (by decide) rfl rfl (pa_cons (pe_ix ix_seq (pv 0) pe_int (fun _ _ => rfl)) (pa_cons (pe_ix ix_seq (pe_ix ix_seq (pe_ix ix_seq (pv 0) pe_int (fun _ _ => rfl)) pe_int (fun _ _ => rfl)) pe_int (fun _ _ => rfl)) pa_nil)) rfl)
  (pss_cons (ps_set (i := 3) nd rfl (.inl rfl) (pe_lst (pa_cons pe_non (pa_cons pe_int (pa_cons pe_str (pa_cons pe_dnewK (pa_cons pe_bl (pa_cons (pe_op op_cat (pv 1) (pe_slice sl_list (pv 1) po_none (po_some pe_int))) (pa_cons (pe_lst (pa_cons (pe_ix ix_seq (pv 1) pe_int (fun _ _ => rfl)) (pa_cons (pe_back (pe_ix ix_seq (pv 1) pe_int (fun _ _ => rfl))) pa_nil))) (pa_cons (pe_lst (pa_cons pe_non pa_nil)) (pa_cons (pe_lst (pa_cons (pe_ix ix_seq (pv 1) pe_int (fun _ _ => rfl)) (pa_cons pe_non pa_nil))) pa_nil)))))))))))
  (pss_one (ps_ret (pe_op op_cat (pv 3) (pe_lst (pa_cons (pe_lst (pa_cons (pe_tup (pa_cons (pv 2) (pa_cons pe_str pa_nil))) pa_nil)) (pa_cons (pe_lst (pa_cons (pe_tup (pa_cons (pv 2) (pa_cons (pv 2) pa_nil))) pa_nil)) (pa_cons (pe_lst (pa_cons (pe_op op_catT (pe_ix ix_seq (pv 1) pe_int (fun _ _ => rfl)) (pe_tup (pa_cons pe_str pa_nil))) pa_nil)) (pa_cons (pe_lst (pa_cons (pv 2) pa_nil)) (pa_cons (pe_callTy (call_dictPT rfl (hu8 hr)) (by rfl) T.dict bi_dict (pa_cons (pe_lst (pa_cons (pe_tup (pa_cons (pe_ix ix_seq (pv 1) pe_int (fun _ _ => rfl)) (pa_cons pe_int pa_nil))) pa_nil)) pa_nil)) pa_nil))))))))))), ?_⟩
  have lrs := y.p.length
  have pel := pf.el
  have pn2 := pf.n2
  obtain ⟨v0, rs', rfl⟩ : ∃ v0 rs', rs = v0 :: rs' := by
    cases rs with
    | nil => rw [List.length_nil] at lrs; omega
    | cons v0 rs' => exact ⟨v0, rs', rfl⟩
  obtain ⟨e0, es', rfl⟩ : ∃ e0 es', es = e0 :: es' := by
    cases es with
    | nil => rw [List.length_nil] at e1; omega
    | cons e0 es' => exact ⟨e0, es', rfl⟩
  have hv0 : TupE H v0 e0 := by
    cases y.p with
    | cons r _ => exact r
  obtain ⟨c0, rfl, hc0⟩ := hv0
  have m0 := pf.mem e0 (by simp)
  refine ⟨_, rfl, ix_at (j := 1) (.inr y.t) rfl ⟨_, rfl, ix_at (j := 1) (.inr y.t) rfl (ix_at (j := 0) (.inl y.r) rfl (ix_at (j := 0) (.inr hc0) rfl ⟨_, _, rfl, ?_⟩))⟩⟩
  intro p1 hp1
  obtain ⟨G1, w1, x1, g1⟩ := newo (o := .dK []) hp1
  rw [w1]
  refine ⟨_, rfl, _, rfl, 1, rfl, r, _, rfl, .inl (.inl (x1.at0 y.r)), fun p2 hp2 => ?_⟩
  have ct : cutV (V.ref c0 :: rs') none (some 1) = [V.ref c0] := by rw [show (1 : Int) = ((1 : Nat) : Int) from rfl, cut_nat]; rfl
  rw [ct]
  obtain ⟨G2, w2, x2, g2⟩ := newo (o := .lst [.ref c0]) hp2
  rw [w2]
  have xa := x1.trans x2
  refine ⟨r, p2, _, _, rfl, rfl, xa.at0 y.r, g2, Nat.le_of_lt (lenZ (by simp only [List.length_cons, List.length_nil] at lrs ⊢; simp only [List.length_cons] at pel; omega)), fun p3 hp3 => ?_⟩
  obtain ⟨G3, w3, x3, g3⟩ := newo (o := .lst ((V.ref c0 :: rs') ++ [V.ref c0])) hp3
  rw [w3]
  have xb := xa.trans x3
  refine ⟨_, rfl, ix_at (j := 0) (.inl (xb.at0 y.r)) rfl ⟨_, rfl, ix_at (j := 0) (.inl (xb.at0 y.r)) rfl ⟨c0, _, _, rfl, .inl (.inl (xb.at0 hc0)), fun p4 hp4 => ?_⟩⟩⟩
  obtain ⟨G4, w4, x4, g4⟩ := newo (o := .tup [.str e0.2, .str e0.1]) hp4
  rw [w4]
  refine ⟨by show 2 ≤ sizeLine; decide, fun p5 hp5 => ?_⟩
  obtain ⟨G5, w5, x5, g5⟩ := newo (o := .lst [.ref c0, .ref p4]) hp5
  rw [w5]
  refine ⟨by show 1 ≤ sizeLine; decide, fun p6 hp6 => ?_⟩
  obtain ⟨G6, w6, x6, g6⟩ := newo (o := .lst [.non]) hp6
  rw [w6]
  have xc := ((xb.trans x4).trans x5).trans x6
  refine ⟨_, rfl, ix_at (j := 0) (.inl (xc.at0 y.r)) rfl ⟨by show 2 ≤ sizeLine; decide, fun p7 hp7 => ?_⟩⟩
  obtain ⟨G7, w7, x7, g7⟩ := newo (o := .lst [.ref c0, .non]) hp7
  rw [w7]
  refine ⟨by show 9 ≤ sizeLine; decide, fun p8 hp8 => ?_⟩
  obtain ⟨G8, w8, x8, g8⟩ := newo (o := .lst [.non, .int 5, .str "ab", .ref p1, .bl true, .ref p3, .ref p5, .ref p6, .ref p7]) hp8
  rw [w8]
  have xd := (xc.trans x7).trans x8
  refine ⟨_, rfl, _, rfl, by show 2 ≤ sizeLine; decide, fun p9 hp9 => ?_⟩
  obtain ⟨G9, w9, x9, g9⟩ := newo (o := .tup [.str e0.1, .str "no1"]) hp9
  rw [w9]
  refine ⟨by show 1 ≤ sizeLine; decide, fun p10 hp10 => ?_⟩
  obtain ⟨G10, w10, x10, g10⟩ := newo (o := .lst [.ref p9]) hp10
  rw [w10]
  refine ⟨_, rfl, _, rfl, by show 2 ≤ sizeLine; decide, fun p11 hp11 => ?_⟩
  obtain ⟨G11, w11, x11, g11⟩ := newo (o := .tup [.str e0.1, .str e0.1]) hp11
  rw [w11]
  refine ⟨by show 1 ≤ sizeLine; decide, fun p12 hp12 => ?_⟩
  obtain ⟨G12, w12, x12, g12⟩ := newo (o := .lst [.ref p11]) hp12
  rw [w12]
  have xe := (((xd.trans x9).trans x10).trans x11).trans x12
  refine ⟨_, rfl, ix_at (j := 0) (.inl (xe.at0 y.r)) rfl ⟨by show 1 ≤ sizeLine; decide, fun p13 hp13 => ?_⟩⟩
  obtain ⟨G13, w13, x13, g13⟩ := newo (o := .tup [.str "x"]) hp13
  rw [w13]
  refine ⟨c0, p13, _, _, rfl, rfl, .inl (.inl ((xe.trans x13).at0 hc0)), .inl (.inl g13), by simp, by show 2 + 1 ≤ sizeLine; decide, fun z => by simp at z, fun _ p14 hp14 => ?_⟩
  obtain ⟨G14, w14, x14, g14⟩ := newo (o := .tup ([.str e0.1, .str e0.2] ++ [.str "x"])) hp14
  rw [w14]
  refine ⟨by show 1 ≤ sizeLine; decide, fun p15 hp15 => ?_⟩
  obtain ⟨G15, w15, x15, g15⟩ := newo (o := .lst [.ref p14]) hp15
  rw [w15]
  refine ⟨_, rfl, by show 1 ≤ sizeLine; decide, fun p16 hp16 => ?_⟩
  obtain ⟨G16, w16, x16, g16⟩ := newo (o := .lst [.str e0.1]) hp16
  rw [w16]
  have xf := (((xe.trans x13).trans x14).trans x15).trans x16
  refine ⟨_, rfl, ix_at (j := 0) (.inl (xf.at0 y.r)) rfl ⟨by show 2 ≤ sizeLine; decide, fun p17 hp17 => ?_⟩⟩
  obtain ⟨G17, w17, x17, g17⟩ := newo (o := .tup [.ref c0, .int 1]) hp17
  rw [w17]
  refine ⟨by show 1 ≤ sizeLine; decide, fun p18 hp18 => ?_⟩
  obtain ⟨G18, w18, x18, g18⟩ := newo (o := .lst [.ref p17]) hp18
  rw [w18]
  refine ⟨p18, [p17], [(kE e0, .int 1)], rfl, .inl (.inl g18), .cons ⟨c0, .inl (.inl (x18.at0 g17)), ((xf.trans x17).trans x18).at0 hc0⟩ .nil, fun p19 hp19 => ?_⟩
  obtain ⟨G19, w19, x19, g19⟩ := newo (o := .dT [(kE e0, .int 1)]) hp19
  have me : merA [] [(kE e0, V.int 1)] = [(kE e0, V.int 1)] := rfl
  rw [me, w19]
  refine ⟨by show 5 ≤ sizeLine; decide, fun p20 hp20 => ?_⟩
  obtain ⟨G20, w20, x20, g20⟩ := newo (o := .lst [.ref p10, .ref p12, .ref p15, .ref p16, .ref p19]) hp20
  rw [w20]
  have x8z := (((((((((((x9.trans x10).trans x11).trans x12).trans x13).trans x14).trans x15).trans x16).trans x17).trans x18).trans x19).trans x20)
  refine ⟨p8, p20, _, _, rfl, rfl, x8z.at0 g8, g20, by show 9 + 5 ≤ sizeLine; decide, fun l hl => ?_⟩
  have xz : Ext [] H G20 := xd.trans x8z
  have x7z := x8.trans x8z
  have x6z := x7.trans x7z
  have x5z := x6.trans x6z
  have x4z := x5.trans x5z
  have x3z := x4.trans x4z
  have x2z := x3.trans x3z
  have x1z := x2.trans x2z
  have x19z := x20
  have x18z := x19.trans x19z
  have x17z := x18.trans x18z
  have x16z := x17.trans x17z
  have x15z := x16.trans x16z
  have x14z := x15.trans x15z
  have x13z := x14.trans x14z
  have x12z := x13.trans x13z
  have x11z := x12.trans x12z
  have x10z := x11.trans x11z
  have x9z := x10.trans x10z
  have eL : Ext [] G20 (upd G20 l (.lst ([.non, .int 5, .str "ab", .ref p1, .bl true, .ref p3, .ref p5, .ref p6, .ref p7] ++ [.ref p10, .ref p12, .ref p15, .ref p16, .ref p19]))) := ext_new hl
  refine q _ l _ (xz.trans eL) (xz.free0 hl) upd_same (by show 14 ≤ 100; decide) fun v hv => OddB.ext eL ?_
  have t0 : TupE G20 (.ref c0) e0 := ⟨c0, rfl, xz.at0 hc0⟩
  have tt := pair_map y.p fun u w z => z.ext0 xz
  simp only [List.cons_append, List.nil_append, List.mem_cons, List.not_mem_nil, or_false] at hv
  rcases hv with rfl | rfl | rfl | rfl | rfl | rfl | rfl | rfl | rfl | rfl | rfl | rfl | rfl | rfl
  · exact ⟨odd_kd .non, al_atm .non⟩
  · exact ⟨odd_kd (.int _), al_atm (.int _)⟩
  · exact ⟨odd_kd (.str _), al_atm (.str _)⟩
  · exact ⟨odd_kd (.dK (x1z.at0 g1)), ent_dK (x1z.at0 g1)⟩
  · exact ⟨odd_kd (.bl _), al_atm (.bl _)⟩
  · have pr : Paired (TupE G20) ((V.ref c0 :: rs') ++ [V.ref c0]) ((e0 :: es') ++ [e0]) := pair_app tt (.cons t0 .nil)
    have ln : ((V.ref c0 :: rs') ++ [V.ref c0]).length ≤ 500 := by simp only [List.length_append, List.length_cons, List.length_nil] at lrs pel ⊢; omega
    refine ⟨.inr ⟨p3, _, _, rfl, .inl (x3z.at0 g3), ln, rd_list pr (fun e he => ?_), .inr ⟨_, rfl, fun nd => ?_⟩⟩, al_to (al_lst (n := 2) (x3z.at0 g3) (by omega) (al_tes pr)) (by decide)⟩
    · rcases List.mem_append.mp he with he | he
      · exact he
      · rw [List.mem_singleton.mp he]; simp
    · exact (List.nodup_append.mp nd).2.2 e0 (by simp) e0 (by simp) rfl
  · have t4 : RdIn G20 ns (e0 :: es') (.ref p4) (some e0) := .good (.inr (x4z.at0 g4)) (by simp) (.inr rfl)
    refine ⟨.inr ⟨p5, _, [some e0, some e0], rfl, .inl (x5z.at0 g5), by show 2 ≤ 500; decide, .cons (rd_good t0 (by simp)) (.cons t4 .nil), .inr ⟨[e0, e0], rfl, by simp⟩⟩, al_to (al_lst (n := 2) (x5z.at0 g5) (by show 2 ≤ 5000; decide) fun x hx => ?_) (by decide)⟩
    simp only [List.mem_cons, List.not_mem_nil, or_false] at hx
    rcases hx with rfl | rfl
    · exact al_te t0
    · exact al_te (e := (e0.2, e0.1)) ⟨p4, rfl, x4z.at0 g4⟩
  · refine ⟨.inr ⟨p6, _, [none], rfl, .inl (x6z.at0 g6), by show 1 ≤ 500; decide, .cons (.kind .non (by decide)) .nil, .inl (by simp)⟩, al_to (al_lst (n := 1) (x6z.at0 g6) (by show 1 ≤ 5000; decide) fun x hx => ?_) (by decide)⟩
    rw [List.mem_singleton.mp hx]
    exact al_atm .non
  · refine ⟨.inr ⟨p7, _, [some e0, none], rfl, .inl (x7z.at0 g7), by show 2 ≤ 500; decide, .cons (rd_good t0 (by simp)) (.cons (.kind .non (by decide)) .nil), .inl (by simp)⟩, al_to (al_lst (n := 2) (x7z.at0 g7) (by show 2 ≤ 5000; decide) fun x hx => ?_) (by decide)⟩
    simp only [List.mem_cons, List.not_mem_nil, or_false] at hx
    rcases hx with rfl | rfl
    · exact al_te t0
    · exact al_atm .non
  · refine ⟨.inr ⟨p10, _, [none], rfl, .inl (x10z.at0 g10), by show 1 ≤ 500; decide, .cons (.no (.inr (x9z.at0 g9)) (.inr (.inl fun m => allN_no (pf.nm _ m)))) .nil, .inl (by simp)⟩, al_to (al_lst (n := 2) (x10z.at0 g10) (by show 1 ≤ 5000; decide) fun x hx => ?_) (by decide)⟩
    rw [List.mem_singleton.mp hx]
    exact al_te (e := (e0.1, "no1")) ⟨p9, rfl, x9z.at0 g9⟩
  · refine ⟨.inr ⟨p12, _, [none], rfl, .inl (x12z.at0 g12), by show 1 ≤ 500; decide, .cons (.no (.inr (x11z.at0 g11)) (.inr (.inr rfl))) .nil, .inl (by simp)⟩, al_to (al_lst (n := 2) (x12z.at0 g12) (by show 1 ≤ 5000; decide) fun x hx => ?_) (by decide)⟩
    rw [List.mem_singleton.mp hx]
    exact al_te (e := (e0.1, e0.1)) ⟨p11, rfl, x11z.at0 g11⟩
  · refine ⟨.inr ⟨p15, _, [none], rfl, .inl (x15z.at0 g15), by show 1 ≤ 500; decide, .cons (.len (.inr (x14z.at0 g14)) (by simp) (by show 3 ≤ 5000; decide)) .nil, .inl (by simp)⟩, al_to (al_lst (n := 2) (x15z.at0 g15) (by show 1 ≤ 5000; decide) fun x hx => ?_) (by decide)⟩
    rw [List.mem_singleton.mp hx]
    refine al_tup (n := 1) (x14z.at0 g14) (by show 3 ≤ 5000; decide) fun x hx => ?_
    simp only [List.cons_append, List.nil_append, List.mem_cons, List.not_mem_nil, or_false] at hx
    rcases hx with rfl | rfl | rfl
    · exact al_atm (.str _)
    · exact al_atm (.str _)
    · exact al_atm (.str _)
  · refine ⟨.inr ⟨p16, _, [none], rfl, .inl (x16z.at0 g16), by show 1 ≤ 500; decide, .cons (.kind (.str _) (by decide)) .nil, .inl (by simp)⟩, al_to (al_lst (n := 1) (x16z.at0 g16) (by show 1 ≤ 5000; decide) fun x hx => ?_) (by decide)⟩
    rw [List.mem_singleton.mp hx]
    exact al_atm (.str _)
  · exact ⟨odd_kd (.dT (x19z.at0 g19)), ent_dT (x19z.at0 g19)⟩
end
end K70

/-! K7R: what is handed, shown; calls where no guard stands. -/
namespace K70
open PySem PySem.Spec PyProof.Rows L2 LamX
/-! ### how long a text of parts is -/
theorem text_le {M : Nat} : ∀ {ts : List PySem.Str} {k : Nat} {acc : PySem.Str}, (∀ t ∈ ts, t.length ≤ M) → (textFrom k acc ts).length ≤ acc.length + ts.length * (M + 2)
  | [], k, acc, _ => by show acc.length ≤ _; omega
  | t :: r, k, acc, h => by
    have ih := text_le (ts := r) (k := k + 1) (acc := acc ++ (if k > 0 then ", " else "" : String) ++ t) fun u hu => h u (List.mem_cons_of_mem _ hu)
    have ht := h t (by simp)
    have e : (acc ++ (if k > 0 then ", " else "" : String) ++ t).length = acc.length + (if k > 0 then 2 else 0) + t.length := by
      rw [strLen_append, strLen_append]
      split <;> rfl
    rw [e] at ih
    show (textFrom (k + 1) (acc ++ (if k > 0 then ", " else "" : String) ++ t) r).length ≤ _
    refine Nat.le_trans ih ?_
    rw [List.length_cons, Nat.succ_mul]
    split <;> omega
theorem list_le {M : Nat} {ts : List PySem.Str} (h : ∀ t ∈ ts, t.length ≤ M) : (listText ts).length ≤ 2 + ts.length * (M + 2) := by
  have := text_le (k := 0) (acc := ("[" : PySem.Str)) h
  unfold listText
  rw [strLen_append]
  have e1 : (("[" : String) : PySem.Str).length = 1 := rfl
  have e2 : (("]" : String) : PySem.Str).length = 1 := rfl
  omega
theorem join_le {M : Nat} {ts : List PySem.Str} (h : ∀ t ∈ ts, t.length ≤ M) : (PySem.Str.join ", " ts).length ≤ ts.length * (M + 2) := by
  have key : ∀ ts : List PySem.Str, (∀ t ∈ ts, t.length ≤ M) → piled ts ≤ ts.length * (M + 2) := fun ts => by
    induction ts with
    | nil => exact fun _ => Nat.zero_le _
    | cons t r ih =>
      intro h
      have ih := ih fun u hu => h u (List.mem_cons_of_mem _ hu)
      have ht := h t (by simp)
      have e : piled (t :: r) = t.length + 2 + piled r := by simp [piled]
      rw [e, List.length_cons, Nat.succ_mul]
      omega
  by_cases q : ts = []
  · subst q
    exact Nat.zero_le _
  · have := join_length_add ts q
    have := key ts h
    omega
theorem tup_le {M : Nat} {ts : List PySem.Str} (h : ∀ t ∈ ts, t.length ≤ M) : (tupleText ts).length ≤ 3 + ts.length * (M + 2) := by
  have := join_le h
  unfold tupleText
  rw [strLen_append, strLen_append]
  have e1 : (("(" : String) : PySem.Str).length = 1 := rfl
  have e2 : (((if ts.length == 1 then ",)" else ")" : String)) : PySem.Str).length ≤ 2 := by
    split
    · exact Nat.le_refl _
    · show 1 ≤ 2
      decide
  omega
/-! ### what is handed -/
abbrev Shp := Bool × List (Bool × Ed)
def mkS (b : Bool) (xs : List V) : HO := if b = true then .lst xs else .tup xs
def hD (q : Bool × Ed) : PyData := if q.1 = true then .list [.str q.2.1, .str q.2.2] else .tuple [.str q.2.1, .str q.2.2]
def hDs (s : Shp) : PyData := if s.1 = true then .list (s.2.map hD) else .tuple (s.2.map hD)
/-- a list or a tuple of pairs, off L -/
def Hnd (L : List Addr) (H : Hp) (t : V) (s : Shp) : Prop := ∃ b vs, t = .ref b ∧ b ∉ L ∧ H b = some (mkS s.1 vs) ∧ Paired (fun v (q : Bool × Ed) => ∃ c, v = V.ref c ∧ c ∉ L ∧ H c = some (mkS q.1 (eV q.2))) vs s.2
theorem sx_mk {H : Hp} {b : Addr} {xs : List V} (h : Sx H b xs) : ∃ k : Bool, H b = some (mkS k xs) := h.elim (fun h => ⟨true, h⟩) fun h => ⟨false, h⟩
theorem mk_sx {H : Hp} {b : Addr} {k : Bool} {xs : List V} (h : H b = some (mkS k xs)) : Sx H b xs := by
  cases k
  · exact .inr h
  · exact .inl h
theorem mkS_tbl {k : Bool} {xs : List V} : ∀ ps, mkS k xs ≠ .tbl ps := fun ps z => by
  cases k <;> cases z
theorem up_hnd {L : List Addr} {H : Hp} {t : V} {gs : List Ed} (h : Up (Up AtmA) L H t (gs.map eV)) : ∃ s : Shp, s.2.map Prod.snd = gs ∧ Hnd L H t s := by
  obtain ⟨b, vs, rfl, nb, sx, _, p⟩ := h
  obtain ⟨k, hk⟩ := sx_mk sx
  have key : ∀ {vs : List V} {gs : List Ed}, Paired (Up AtmA L H) vs (gs.map eV) → ∃ qs : List (Bool × Ed), qs.map Prod.snd = gs ∧ Paired (fun v (q : Bool × Ed) => ∃ c, v = V.ref c ∧ c ∉ L ∧ H c = some (mkS q.1 (eV q.2))) vs qs := fun {vs} => by
    induction vs with
    | nil =>
      intro gs p
      cases gs with
      | nil => exact ⟨[], rfl, .nil⟩
      | cons g gs => cases p
    | cons v vs ih =>
      intro gs p
      cases gs with
      | nil => cases p
      | cons g gs =>
        cases p with
        | cons r p =>
          obtain ⟨qs, e, pq⟩ := ih p
          obtain ⟨c, xs, rfl, nc, sc, _, pa⟩ := r
          rw [atm_eq pa] at sc
          obtain ⟨k2, hk2⟩ := sx_mk sc
          exact ⟨(k2, g) :: qs, by rw [List.map_cons, e], .cons ⟨c, rfl, nc, hk2⟩ pq⟩
  obtain ⟨qs, e, pq⟩ := key p
  exact ⟨(k, qs), e, b, vs, rfl, nb, hk, pq⟩
theorem hnd_dp {K : PySem.W.Frag} {L : List Addr} {H : Hp} {t : V} {s : Shp} (h : Hnd L H t s) : ∃ b, t = .ref b ∧ Dp K H (.ref b) (hDs s) := by
  obtain ⟨b, vs, rfl, _, hb, p⟩ := h
  have all : DpAll K H vs (s.2.map hD) := by
    generalize s.2 = qs at p
    clear hb
    induction p with
    | nil => exact .nil
    | @cons v q _ _ r _ ih =>
      obtain ⟨c, rfl, _, hc⟩ := r
      refine .cons ?_ ih
      obtain ⟨k, e⟩ := q
      cases k
      · exact .tup (.inl (.inl hc)) (.cons (.str _) (.cons (.str _) .nil))
      · exact .lst (.inl (.inl hc)) (.cons (.str _) (.cons (.str _) .nil))
  refine ⟨b, rfl, ?_⟩
  unfold hDs
  cases q : s.1
  · rw [q] at hb
    exact .tup (.inl (.inl hb)) all
  · rw [q] at hb
    exact .lst (.inl (.inl hb)) all
theorem repr_le : ∀ z ∈ allN, (reprText z).length ≤ 12 := fun z hz => of_decide_eq_true (List.all_eq_true.mp (show (allN.all fun z => decide ((reprText z).length ≤ 12)) = true by decide +kernel) z hz)
theorem hD_ok {q : Bool × Ed} (m1 : q.2.1 ∈ allN) (m2 : q.2.2 ∈ allN) : (hD q).showable = true ∧ (hD q).hasDict = false ∧ (hD q).depth = 1 ∧ (hD q).shown.length ≤ 40 := by
  have h : ∀ t ∈ [reprText q.2.1, reprText q.2.2], t.length ≤ 12 := fun t ht => by
    simp only [List.mem_cons, List.not_mem_nil, or_false] at ht
    rcases ht with rfl | rfl
    · exact repr_le _ m1
    · exact repr_le _ m2
  have l1 := list_le h
  have l2 := tup_le h
  simp only [List.length_cons, List.length_nil] at l1 l2
  obtain ⟨k, e⟩ := q
  cases k
  · refine ⟨rfl, rfl, rfl, ?_⟩
    exact Nat.le_trans l2 (by decide)
  · refine ⟨rfl, rfl, rfl, ?_⟩
    exact Nat.le_trans l1 (by decide)
theorem hDs_ok {s : Shp} (m : ∀ q ∈ s.2, q.2.1 ∈ allN ∧ q.2.2 ∈ allN) (l : s.2.length ≤ 1000) : ShowOk (hDs s) := by
  have key : ∀ qs : List (Bool × Ed), (∀ q ∈ qs, q.2.1 ∈ allN ∧ q.2.2 ∈ allN) → PyData.showableAll (qs.map hD) = true ∧ PyData.hasDictAll (qs.map hD) = false ∧ PyData.depthAll (qs.map hD) ≤ 1 ∧ (PyData.shownAll (qs.map hD)).length = qs.length ∧ ∀ t ∈ PyData.shownAll (qs.map hD), t.length ≤ 40 := fun qs => by
    induction qs with
    | nil => exact fun _ => ⟨rfl, rfl, Nat.zero_le _, rfl, fun t ht => by cases ht⟩
    | cons q qs ih =>
      intro h
      obtain ⟨i1, i2, i3, i4, i5⟩ := ih fun z hz => h z (List.mem_cons_of_mem _ hz)
      obtain ⟨j1, j2, j3, j4⟩ := hD_ok (h q (by simp)).1 (h q (by simp)).2
      refine ⟨?_, ?_, ?_, ?_, fun t ht => ?_⟩
      · rw [List.map_cons, PyData.showableAll, j1, i1]; rfl
      · rw [List.map_cons, PyData.hasDictAll, j2, i2]; rfl
      · rw [List.map_cons, PyData.depthAll, j3]
        exact Nat.max_le.mpr ⟨Nat.le_refl _, i3⟩
      · rw [List.map_cons, PyData.shownAll, List.length_cons, i4]; rfl
      · rw [List.map_cons, PyData.shownAll] at ht
        rcases List.mem_cons.mp ht with rfl | ht
        · exact j4
        · exact i5 t ht
  obtain ⟨i1, i2, i3, i4, i5⟩ := key s.2 m
  have l1 := list_le i5
  have l2 := tup_le i5
  rw [i4] at l1 l2
  have hz : sizeLine = 16777216 := sizeLine_eq
  have b : s.2.length * (40 + 2) ≤ 1000 * 42 := Nat.mul_le_mul l (Nat.le_refl _)
  unfold hDs
  cases s.1
  · exact ⟨i1, i2, by show (tupleText _).length ≤ _; omega, by show PyData.depthAll _ + 1 ≤ 8; omega⟩
  · exact ⟨i1, i2, by show (listText _).length ≤ _; omega, by show PyData.depthAll _ + 1 ≤ 8; omega⟩
end K70

/-! K7S: a turn of the law. -/
namespace K70
open PySem PySem.Spec PyProof.Rows L2 LamX
section
variable {P : Program} {w : World} {K : PySem.W.Frag} {mg : Str → Option Value} {base : Heap} {CV CG CB : Addr}
theorem hu16 {A : Around} {k : Nat} (hr : Room k A) : A.units + 16 < cLine := by have := hr.un; omega
/-- like Cl, where no guard stands -/
structure ClG (P : Program) (w : World) (K : PySem.W.Frag) (mg : Str → Option Value) (base : Heap) (CX : CXT) (k : Nat) (x : Str) (sp : Sp) : Prop where
  ex : ∃ (f : Addr) (fd : FuncData) (ps : List Str), (∀ (A : Around) (outer : List Env) (s : Shared) (H : Hp) (args : Args) (us : List Value) (vs : List V) (Q : VK) (E : XK), A.guards = some [] → Room k A → Env0 P w K mg base A outer s H → BindsTo s fd args (ps.zip us) → Vals vs us → sp vs H Q E →
      codeAny (model P w) A (.call (.ref f) args) (CR CX outer P w H s Q E) s) ∧ (∀ vs H Q E, sp vs H Q E → vs.length = ps.length) ∧ mg x = some (.ref f) ∧ PySem.W.keepIn K (.ref f) = true ∧ Binds K fd ps []
theorem Df.clG {x : Str} {st : Stmt} {N ps : List Str} {k : Nat} {sp : Sp} (D : Df K mg x st) (S : FnScope N ps (defScope st)) (hb : BindsBy x st ps) (len : ∀ vs H Q E, sp vs H Q E → vs.length = ps.length)
    (body : ∀ (f : Addr) (cdv : Value) (A : Around) (outer : List Env) (s : Shared) (H : Hp) (vs : List V) (Q : VK) (E : XK), A.guards = some [] → Room k (A.deeper (envOfC x (defScope st) s.heap.objs.size f cdv)) → sp vs H Q E →
      ∃ t, PSs (cxOf CX0 P w K mg base N x (defScope st) f cdv A outer s H E).nox (defBody st) t ∧ t { nx := fun _ H' => Q .non H', rt := Q } (start N vs) H) : ClG P w K mg base CX0 (k + 1) x sp := by
  obtain ⟨f, fd, F, g⟩ := D.ex
  refine ⟨f, fd, ps, fun A outer s H args us vs Q E hg hr e0 hbd rv hsp => ?_, len, g, F.kp, F.bindsN hb⟩
  obtain ⟨oc, od, dV, kV, doc, pm, an, cdv, ct, osl, rfl, lk, hcd, _, _⟩ := F.ex
  exact run_ofS lk hcd S hr e0 hbd rv (len _ _ _ _ hsp) fun hr' => by
    obtain ⟨t, a, b⟩ := body f cdv A outer s H vs Q E hg hr' hsp
    exact ⟨t, a.nox, b⟩
theorem pe_kG {X : Cx} {CX : CXT} {j k : Nat} {x : Str} {sp : Sp} {E : XK} {p pos : Pos} {e : Expr} {es : List Expr} {t : TA} (c : ClG X.prog X.w X.K X.mg X.base CX k x sp) (hgd : X.A.guards = some []) (hr : Room j X.A) (hx : Passes CX X E) (ha : PA X (e :: es) t) (hk : k ≤ j := by first | decide | omega) (hg : Gl X x := by rfl)
    (hdb : (x == ("__debug__" : Str)) = false := by decide) (he : starEach (e :: es) X.env = (false, eval e X.env) :: starEach es X.env := by rfl) (hpl : (backTo pos (starEach es X.env)).any (·.1) = false := by rfl) :
    PE X (.Call (.Name x p) (e :: es) [] pos) (tK sp E t) := by
  obtain ⟨f, fd, ps, run, len, gx, kp, bi⟩ := c.ex
  refine ⟨fun pins s σ H Q I h => ?_⟩
  refine wpAny_Call_Name_kw (ld_glob I hg gx ?_ hdb)
  refine PySem.W.callWith_K (h₀ := X.base) I.ok.mod.kin kp (thn (ha.run pos pins s σ H _ I h) fun us s1 ⟨vs, H1, I1, rv, q⟩ => ⟨I1.kIn, ?_⟩) he hpl
  have lv := len _ _ _ _ q
  have lu := rv.length
  have b0 := bi s1 us I1.kIn (by rw [List.append_nil]; omega)
  rw [List.append_nil] at b0
  refine wpAny_call (codeAny_mono (run X.A X.stack s1 H1 _ us vs Q E hgd (hr.mono hk) I1.env0 b0 rv q) fun r s' hc => ?_)
  cases r with
  | error e => exact hx pins σ H1 s1 e s' I1 hc
  | ok fl =>
    cases fl with
    | ret u => exact I1.after hc
    | next => exact False.elim hc
    | brk => exact False.elim hc
    | cont => exact False.elim hc
/-! ### all but the lists at L and the tables stay -/
structure EL (L : List Addr) (T : List (Addr × PySem.Str)) (H H' : Hp) : Prop where
  n : ∀ b o, b ∉ L → (∀ ps, o ≠ .tbl ps) → H b = some o → H' b = some o
  t : Tabs T H'
abbrev Ls (H : Hp) (L : List Addr) : Prop := ∀ c ∈ L, ∃ l, H c = some (.lst l)
theorem tabs_lst {T : List (Addr × PySem.Str)} {H H' : Hp} {L : List Addr} (t : Tabs T H) (hL : Ls H L) (e : ∀ b o, b ∉ L → H b = some o → H' b = some o) : Tabs T H' := fun p hp => by
  obtain ⟨ps, h1, h2, h3⟩ := t p hp
  refine ⟨ps, e _ _ (fun m => ?_) h1, h2, fun pos cv hc => ?_⟩
  · obtain ⟨l, hl⟩ := hL _ m
    rw [h1] at hl
    cases hl
  · obtain ⟨c, e1, e2⟩ := h3 pos cv hc
    refine ⟨c, e1, e _ _ (fun m => ?_) e2⟩
    obtain ⟨l, hl⟩ := hL _ m
    rw [e2] at hl
    cases hl
theorem EL.ofExt {L : List Addr} {T : List (Addr × PySem.Str)} {H H' : Hp} (t : Tabs T H) (hL : Ls H L) (e : Ext L H H') : EL L T H H' := ⟨fun b o n _ h => e b o n h, tabs_lst t hL fun b o n h => e b o n h⟩
theorem EL.ofT {L : List Addr} {T : List (Addr × PySem.Str)} {H H' : Hp} (e : ExtT T H H') : EL L T H H' := ⟨fun b o _ n h => e.n b o h n, e.t⟩
theorem EL.trans {L : List Addr} {T : List (Addr × PySem.Str)} {H H1 H2 : Hp} (a : EL L T H H1) (b : EL L T H1 H2) : EL L T H H2 := ⟨fun c o n k h => b.n c o n k (a.n c o n k h), b.t⟩
theorem EL.wide {L M : List Addr} {T : List (Addr × PySem.Str)} {H H' : Hp} (a : EL L T H H') (s : ∀ b, b ∈ L → b ∈ M) : EL M T H H' := ⟨fun c o n k h => a.n c o (fun z => n (s c z)) k h, a.t⟩
theorem EL.at_ {L : List Addr} {T : List (Addr × PySem.Str)} {H H' : Hp} {b : Addr} {o : HO} (e : EL L T H H') (nb : b ∉ L) (h : H b = some o) (n : ∀ ps, o ≠ .tbl ps := by intro _ z; cases z) : H' b = some o := e.n b o nb n h
theorem EL.nl {L : List Addr} {T : List (Addr × PySem.Str)} {H H' : Hp} {b : Addr} {o : HO} (e : EL L T H H') (hL : Ls H L) (h : H b = some o) (nl : ∀ l, o ≠ .lst l := by intro _ z; cases z) (n : ∀ ps, o ≠ .tbl ps := by intro _ z; cases z) : H' b = some o := e.n b o (fun m => by
  obtain ⟨l, hl⟩ := hL b m
  rw [h] at hl
  exact nl l (Option.some.inj hl)) n h
theorem EL.te {L : List Addr} {T : List (Addr × PySem.Str)} {H H' : Hp} {v : V} {g : Ed} (e : EL L T H H') (hL : Ls H L) (h : TupE H v g) : TupE H' v g := by
  obtain ⟨c, rfl, h⟩ := h
  exact ⟨c, rfl, e.nl hL h⟩
theorem EL.vy {L : List Addr} {T : List (Addr × PySem.Str)} {H H' : Hp} {v : V} {ns : List PySem.Str} {es : List Ed} (e : EL L T H H') (hL : Ls H L) (h : Vy CV H v ns es) : Vy CV H' v ns es := by
  obtain ⟨x, dx, fs, nb, rk, rd, pl, ts, kvs, rfl, y⟩ := h
  exact ⟨x, dx, fs, nb, rk, rd, pl, ts, kvs, rfl, e.nl hL y.o, y.f1, y.f2, y.f3, y.f4, e.nl hL y.n, e.nl hL y.r, e.nl hL y.d, pair_map y.p fun u w z => e.te hL z, e.nl hL y.l, y.lk⟩
theorem EL.fo {L : List Addr} {T : List (Addr × PySem.Str)} {H H' : Hp} {fa n r h : Addr} {rs : List V} {ns : List PySem.Str} {es : List Ed} {hs : List Int} (e : EL L T H H') (hL : Ls H L) (n1 : n ∉ L) (n2 : r ∉ L) (n3 : h ∉ L) (y : FoAt H fa n r h rs ns es hs) : FoAt H' fa n r h rs ns es hs :=
  ⟨e.nl hL y.t, e.at_ n1 y.n, e.at_ n2 y.r, pair_map y.p fun u w z => e.te hL z, e.at_ n3 y.h⟩
theorem EL.hnd {L : List Addr} {T : List (Addr × PySem.Str)} {H H' : Hp} {t : V} {s : Shp} (e : EL L T H H') (h : Hnd L H t s) : Hnd L H' t s := by
  obtain ⟨b, vs, rfl, nb, hb, p⟩ := h
  exact ⟨b, vs, rfl, nb, e.at_ nb hb mkS_tbl, pair_map p fun v q ⟨c, z1, z2, z3⟩ => ⟨c, z1, z2, e.at_ z2 z3 mkS_tbl⟩⟩
/-- what was not there at first is written -/
theorem EL.wr {L : List Addr} {T : List (Addr × PySem.Str)} {H G : Hp} {p : Addr} {o o' : HO} (e : EL L T H G) (fr : FrN H p) (hp : G p = some o) (nt : ∀ ps, o ≠ .tbl ps := by intro _ z; cases z) (nc : ∀ c q, o ≠ CodeO c q := by intro _ _ z; cases z) : EL L T H (upd G p o') := by
  refine ⟨fun b u nb n h => ?_, fun t ht => ?_⟩
  · rw [upd_ne (fun z => by
      rw [z] at h
      obtain ⟨ps, q⟩ := fr u h
      exact n ps q)]
    exact e.n b u nb n h
  · obtain ⟨ps, h1, h2, h3⟩ := e.t t ht
    refine ⟨ps, by rw [upd_ne (fun z => by rw [z, hp] at h1; exact nt _ (Option.some.inj h1))]; exact h1, h2, fun pos cv hc => ?_⟩
    obtain ⟨c, e1, e2⟩ := h3 pos cv hc
    exact ⟨c, e1, by rw [upd_ne (fun z => by rw [z, hp] at e2; exact nc _ _ (Option.some.inj e2))]; exact e2⟩
theorem FrN.none {H : Hp} {p : Addr} (h : H p = Option.none) : FrN H p := fun o ho => by
  rw [h] at ho
  cases ho
theorem FrN.el0 {H G : Hp} {p : Addr} (e : Ext [] H G) (h : FrN G p) : FrN H p := h.mono e
theorem hnd_nm {s : Shp} {bs es : List Ed} {ns : List PySem.Str} {hs : List Int} (pf : Pf ns es hs) (fl : Paired Flp (s.2.map Prod.snd) bs) (sub : ∀ e ∈ bs, e ∈ es) : ∀ q ∈ s.2, q.2.1 ∈ allN ∧ q.2.2 ∈ allN := by
  generalize s.2 = qs at fl
  induction qs generalizing bs with
  | nil => intro q hq; cases hq
  | cons q qs ih =>
    cases fl with
    | @cons _ e _ _ f fl =>
      have m := pf.mem e (sub e (by simp))
      intro q' hq'
      rcases List.mem_cons.mp hq' with rfl | hq'
      · rcases f with f | f
        · rw [f]
          exact ⟨pf.nm _ m.1, pf.nm _ m.2⟩
        · rw [f]
          exact ⟨pf.nm _ m.2, pf.nm _ m.1⟩
      · exact ih (fun g hg => sub g (List.mem_cons_of_mem _ hg)) fl q' hq'
theorem good_te {H : Hp} {ns : List PySem.Str} {es bs : List Ed} {b : Addr} {xs : List V} (h : H b = some (.lst xs)) (p : Paired (TupE H) xs bs) (sub : ∀ e ∈ bs, e ∈ es) (nd : bs.Nodup) (l : bs.length ≤ 500) : KnGood H ns es (.ref b) bs := by
  have lp := p.length
  refine ⟨b, xs, rfl, .inl h, by omega, ?_, nd⟩
  clear nd l lp h
  induction p with
  | nil => exact .nil
  | @cons v e _ _ r _ ih => exact .cons (rd_good r (sub e (by simp))) (ih fun g hg => sub g (List.mem_cons_of_mem _ hg))
theorem al_cnt {H : Hp} {c d : Addr} {ns : List PySem.Str} {g : PySem.Str → Int} (l : ns.length ≤ 60) (hc : H c = some (.dK (mk ns fun z => .int (g z)))) (hd : H d = some (.dK (mk ns fun z => .int (g z)))) : Al 4 H (.ref c) (.ref d) := al_dct (n := 1) ⟨c, d, rfl, rfl, .inl ⟨_, hc⟩, .inl ⟨_, hd⟩, fun H' ps qs e a1 a2 => by
  have key : ∀ b ps, H' b = some (.dK (mk ns fun z => .int (g z))) → EntOf H' b ps → ps = (mk ns fun z => .int (g z)).map fun kv => (kV kv.1, kv.2) := fun b ps hb a => by
    rcases a with ⟨kvs, y, x⟩ | ⟨kvs, y, x⟩
    · rw [hb] at y
      cases y
      exact x
    · rw [hb] at y
      cases y
  rw [key c ps (e _ _ hc (fun _ z => by cases z)) a1, key d qs (e _ _ hd (fun _ z => by cases z)) a2]
  refine ⟨by rw [List.length_map, List.length_map]; omega, pair_self fun x hx => ?_⟩
  obtain ⟨kv, hk, rfl⟩ := List.mem_map.mp hx
  obtain ⟨z, _, rfl⟩ := List.mem_map.mp hk
  exact ⟨al_atm (.str z), al_atm (.int _)⟩⟩
theorem al_ll {H : Hp} {c d : Addr} {vs ws : List V} {ll : List (List PySem.Str)} (l : ll.length ≤ 5000) (k : ∀ x ∈ ll, x.length ≤ 5000) (hc : H c = some (.lst vs)) (hd : H d = some (.lst ws)) (p : Paired (fun v (x : List PySem.Str) => ∃ b, v = V.ref b ∧ H b = some (.lst (x.map V.str))) vs ll)
    (q : Paired (fun v (x : List PySem.Str) => ∃ b, v = V.ref b ∧ H b = some (.lst (x.map V.str))) ws ll) : Al 3 H (.ref c) (.ref d) := by
  refine al_seq (n := 2) ⟨c, d, vs, ws, rfl, rfl, .inl ⟨hc, hd⟩, by rw [p.length]; exact l, ?_⟩
  clear hc hd l
  induction p generalizing ws with
  | nil =>
    cases q
    exact .nil
  | @cons v x _ _ r _ ih =>
    cases q with
    | cons r2 q =>
      obtain ⟨b, rfl, h1⟩ := r
      obtain ⟨b2, rfl, h2⟩ := r2
      refine .cons (al_seq (n := 1) ⟨b, b2, _, _, rfl, rfl, .inl ⟨h1, h2⟩, by rw [List.length_map]; exact k x (by simp), pair_self fun z hz => ?_⟩) (ih (fun y hy => k y (List.mem_cons_of_mem _ hy)) q)
      obtain ⟨w', _, rfl⟩ := List.mem_map.mp hz
      exact al_atm (.str w')
/-- fresh lists of lists, later -/
def LtAt (H0 G : Hp) (d : Addr) (ll : List (List PySem.Str)) : Prop := ∃ vs, G d = some (.lst vs) ∧ Paired (fun v (x : List PySem.Str) => ∃ b, v = V.ref b ∧ G b = some (.lst (x.map V.str)) ∧ FrN H0 b) vs ll
theorem LotsAt.keep {H0 G G' : Hp} {d : Addr} {ll : List (List PySem.Str)} (la : LotsAt H0 G d ll) (k : ∀ b l, FrN H0 b → G b = some (.lst l) → G' b = some (.lst l)) : LtAt H0 G' d ll := by
  obtain ⟨f, vs, h, p⟩ := la
  exact ⟨vs, k d vs f h, pair_map p fun v x ⟨b, z1, z2, z3, z4⟩ => ⟨b, z1, k b _ z4 z3, z4⟩⟩
theorem LtAt.keep {H0 G G' : Hp} {d : Addr} {ll : List (List PySem.Str)} (fd : FrN H0 d) (la : LtAt H0 G d ll) (k : ∀ b l, FrN H0 b → G b = some (.lst l) → G' b = some (.lst l)) : LtAt H0 G' d ll := by
  obtain ⟨vs, h, p⟩ := la
  exact ⟨vs, k d vs fd h, pair_map p fun v x ⟨b, z1, z3, z4⟩ => ⟨b, z1, k b _ z4 z3, z4⟩⟩
theorem al_lt {H H1 H2 : Hp} {c d : Addr} {ll : List (List PySem.Str)} (l : ll.length ≤ 60) (k : ∀ x ∈ ll, x.length ≤ 60) (p : LtAt H1 H c ll) (q : LtAt H2 H d ll) : Al 3 H (.ref c) (.ref d) := by
  obtain ⟨vs, h1, p⟩ := p
  obtain ⟨ws, h2, q⟩ := q
  exact al_ll (by omega) (fun x hx => Nat.le_trans (k x hx) (by decide)) h1 h2 (pair_map p fun v x ⟨b, z1, z2, _⟩ => ⟨b, z1, z2⟩) (pair_map q fun v x ⟨b, z1, z2, _⟩ => ⟨b, z1, z2⟩)
/-- a begun list -/
def BegL (L : List Addr) (H : Hp) (es : List Ed) (v : V) : Prop := ∃ b xs bs, v = .ref b ∧ b ∉ L ∧ H b = some (.lst xs) ∧ Paired (TupE H) xs bs ∧ bs.Nodup ∧ (∀ e ∈ bs, e ∈ es) ∧ bs.length ≤ es.length
theorem EL.beg {L : List Addr} {T : List (Addr × PySem.Str)} {H H' : Hp} {es : List Ed} {v : V} (e : EL L T H H') (hL : Ls H L) (h : BegL L H es v) : BegL L H' es v := by
  obtain ⟨b, xs, bs, rfl, nb, hb, p, r⟩ := h
  exact ⟨b, xs, bs, rfl, nb, e.at_ nb hb, pair_map p fun u w z => e.te hL z, r⟩
theorem hnd_good {L : List Addr} {H : Hp} {t : V} {s : Shp} {ns : List PySem.Str} {es bs : List Ed} (h : Hnd L H t s) (fl : Paired Flp (s.2.map Prod.snd) bs) (sub : ∀ e ∈ bs, e ∈ es) (nd : bs.Nodup) (l : bs.length ≤ 500) : KnGood H ns es t bs := by
  obtain ⟨b, vs, rfl, _, hb, p⟩ := h
  have l1 := p.length
  have l2 := fl.length
  rw [List.length_map] at l2
  refine ⟨b, vs, rfl, mk_sx hb, by omega, ?_, nd⟩
  clear hb l1 l2 nd l
  generalize s.2 = qs at p fl
  induction p generalizing bs with
  | nil =>
    cases fl
    exact .nil
  | @cons v q _ _ r _ ih =>
    cases fl with
    | @cons _ e _ _ f fl =>
      obtain ⟨c, rfl, _, hc⟩ := r
      refine .cons (.good (mk_sx hc) (sub e (by simp)) ?_) (ih (fun g hg => sub g (List.mem_cons_of_mem _ hg)) fl)
      rcases f with f | f
      · exact .inl f
      · refine .inr ?_
        have f1 : q.2.1 = e.2 := congrArg Prod.fst f
        have f2 : q.2.2 = e.1 := congrArg Prod.snd f
        rw [f1, f2]
theorem lotsF_ok {ns : List PySem.Str} {bs : List Ed} (l : ns.length ≤ 60) : (lotsF ns bs).length ≤ 60 ∧ ∀ x ∈ lotsF ns bs, x.length ≤ 60 := by
  unfold lotsF
  refine ⟨by rw [List.length_map]; exact Nat.le_trans (List.length_filter_le ..) l, fun x hx => ?_⟩
  obtain ⟨z, _, rfl⟩ := List.mem_map.mp hx
  exact Nat.le_trans (List.length_filter_le ..) l
theorem lotsF_ne {ns : List PySem.Str} {bs : List Ed} (acy : Acy bs) (mem : ∀ e ∈ bs, e.1 ∈ ns ∧ e.2 ∈ ns) (h : 1 ≤ ns.length) : ∃ x r, lotsF ns bs = x :: r := by
  have s := jl_run acy mem bs.length (Nat.le_refl _)
  rw [List.take_of_length_le (Nat.le_refl _)] at s
  have m0 : ns[0] ∈ ns := List.getElem_mem (by omega)
  obtain ⟨i1, i2, _⟩ := s.i _ m0
  have m : labF ns bs ns[0] ∈ ns.filter fun z => decide (labF ns bs z = z) := List.mem_filter.mpr ⟨i1, decide_eq_true i2⟩
  unfold lotsF
  cases q : ns.filter fun z => decide (labF ns bs z = z) with
  | nil => rw [q] at m; cases m
  | cons a r => exact ⟨_, _, rfl⟩
def spTurns (P1 P2 : Addr) : Sp := fun vs H Q _ => ∃ (a : Addr) (f : V) (ns : List PySem.Str) (es : List Ed) (hs : List Int), vs = [.ref a, f] ∧ Src H a ∧ Fo a H f ns es hs ∧ Pf ns es hs ∧ Tabs (tabsT P1 P2) H ∧ ∀ H', EL [a] (tabsT P1 P2) H H' → Src H' a → Q (.bl true) H'
abbrev N__law_turns_right : List PySem.Str := ["_law_source_here", "_law_form", "_law_valley", "_law_rows", "_law_held", "_law_k", "_law_begun", "_law_found", "_law_handed", "_law_due", "_law_was"]
theorem sc__law_turns_right : FnScope N__law_turns_right ["_law_source_here", "_law_form"] (defScope (topS 57)) := ⟨rfl, rfl, rfl, by decide +kernel, rfl, by decide +kernel, by decide +kernel⟩
theorem bb__law_turns_right : BindsBy "_law_turns_right" (topS 57) ["_law_source_here", "_law_form"] := fun _ _ _ _ _ _ us hl => match us, hl with | [_, _], _ => rfl
theorem ok_turns (T : Tx P K mg CV CG CB) {P1 P2 : Addr} (D : Df K mg "_law_turns_right" (topS 57)) (c__law_f_valley : Cl P w K mg base CX0 6 "_law_f_valley" (spValley CV)) (c__law_f_begun : Cl P w K mg base CX0 3 "_law_f_begun" spBegun) (c__law_f_handed : Cl P w K mg base CX0 4 "_law_f_handed" spHanded) (c__law_f_so_far : Cl P w K mg base CX0 2 "_law_f_so_far" spFSoFar) (c__law_f_lots : Cl P w K mg base CX0 1 "_law_f_lots" spFLots)
    (c_feasts_so_far : Cl P w K mg base (L2.CX P w) 5 "feasts_so_far" (spSoFar CV CG CB)) (s_feasts_so_far : ClS P w K mg base (L2.CX P w) 5 "feasts_so_far" "valley" "begun" (spSoFar CV CG CB)) (c_lots : Cl P w K mg base (L2.CX P w) 5 "lots" (spLots CV CG CB P1 P2)) (s_lots : ClS P w K mg base (L2.CX P w) 5 "lots" "valley" "begun" (spLots CV CG CB P1 P2))
    (c_is_begun : Cl P w K mg base (L2.CX P w) 4 "is_begun" (spIsBegun CV CG)) (s_is_begun : ClS P w K mg base (L2.CX P w) 4 "is_begun" "valley" "thing" (spIsBegun CV CG)) (c__law_same : Cl P w K mg base CX0 6 "_law_same" (spSame 5)) (c__law_f_put : Cl P w K mg base CX0 1 "_law_f_put" spPut) : ClG P w K mg base CX0 7 "_law_turns_right" (spTurns P1 P2) := by
  refine D.clG sc__law_turns_right bb__law_turns_right (fun vs H Q E ⟨_, _, _, _, _, e, _⟩ => by rw [e]; rfl) fun f cdv A outer s H vs Q E hgd hr h => ?_
  have nd := sc__law_turns_right.nd
  obtain ⟨a, f, ns, es, hs, rfl, ha, fo, pf, tb, q⟩ := h
  refine ⟨_, (pss_cons (ps_par3 (i := 2) (j := 3) (l := 4) rfl nd rfl rfl rfl (by decide) (by decide) (by decide) rfl rfl rfl (pa_cons (pe_k c__law_f_valley hr pass0 (pa_cons (pv 0) (pa_cons (pv 1) pa_nil))) (pa_cons (pe_lc (own := [("_law_k", 5)]) (g := gName 5) (tt := tYes) rfl nd (pi_range1 (by rfl) T.range (pa_cons pe_int pa_nil)) (blkOk_by (N := N__law_turns_right) (sc := defScope (topS 57)) (by decide +kernel)) (fun _ _ _ _ _ => (pg_name (i := 5) nd rfl (.inl rfl))) (fun _ _ _ _ _ => pts_nil) (fun _ _ _ _ _ => (pe_k c__law_f_begun hr pass0 (pa_cons (pv 0) (pa_cons (pv 1) pa_nil))))) (pa_cons (pe_lst pa_nil) pa_nil))) rfl)
  (pss_cons (ps_for PassesOwn.never rfl (pi_seqP (pe_tup (pa_cons (pe_ix ix_seq (pv 3) pe_int (fun _ _ => rfl)) (pa_cons (pe_ix ix_seq (pv 3) pe_int (fun _ _ => rfl)) (pa_cons (pe_ix ix_seq (pv 3) pe_int (fun _ _ => rfl)) (pa_cons (pe_lst pa_nil) (pa_cons (pe_ix ix_seq (pv 1) pe_int (fun _ _ => rfl)) pa_nil))))))) (pg_name (i := 6) nd rfl (.inl rfl))
    (pss_cons (ps_par (i := 8) (j := 9) rfl nd rfl rfl (by decide) rfl rfl (pa_cons (pe_k c__law_f_handed hr pass0 (pa_cons (pv 0) (pa_cons (pv 6) pa_nil))) (pa_cons (pe_lst (pa_cons (pe_k c__law_f_so_far hr pass0 (pa_cons (pv 1) (pa_cons (pv 6) pa_nil))) (pa_cons (pe_k c__law_f_lots hr pass0 (pa_cons (pv 1) (pa_cons (pv 6) pa_nil))) pa_nil))) pa_nil)) rfl)
  (pss_cons (ps_par (i := 10) (j := 7) rfl nd rfl rfl (by decide) rfl rfl (pa_cons (pe_callB (call_reprD hgd (hu16 hr)) (by rfl) T.repr bi_repr (pa_cons (pv 8) pa_nil)) (pa_cons (pe_lst (pa_cons (pe_k c_feasts_so_far hr (passes_call (E := fun _ _ _ => False) LamX.takes0 fun _ _ _ _ h => h.elim) (pa_cons (pv 2) (pa_cons (pv 8) pa_nil))) (pa_cons (pe_k c_lots hr (passes_call (E := fun _ _ _ => False) LamX.takes0 fun _ _ _ _ h => h.elim) (pa_cons (pv 2) (pa_cons (pv 8) pa_nil))) pa_nil))) pa_nil)) rfl)
  (pss_cons (ps_if ((pw_or (pt_not (pt_val (pe_k c__law_same hr pass0 (pa_cons (pv 7) (pa_cons (pv 9) pa_nil))))) (pw_or (pt_cmpR op_ne (pe_callB (call_reprD hgd (hu16 hr)) (by rfl) T.repr bi_repr (pa_cons (pv 8) pa_nil)) (pv 10) (nomark _)) (pw_or1 (pt_cmpR op_notBl (pe_k c_is_begun hr (passes_call (E := fun _ _ _ => False) LamX.takes0 fun _ _ _ _ h => h.elim) (pa_cons (pv 2) (pa_cons (pv 8) pa_nil))) pe_bl (nomark _)))))).pt (pss_one (ps_ret pe_bl)) pss_nil)
  (pss_cons (ps_expr (pe_dclear (pe_ix ix_seq (pv 7) pe_int (fun _ _ => rfl))))
  (pss_cons (ps_expr (pe_bm PySem.F.plainAttrs_list PySem.F.slot_list_append PySem.F.type_list_append mt_append (pe_ix ix_seq (pe_ix ix_seq (pv 7) pe_int (fun _ _ => rfl)) pe_int (fun _ _ => rfl)) (pa_cons pe_str pa_nil)))
  (pss_cons (ps_expr (pe_bm PySem.F.plainAttrs_list PySem.F.slot_list_append PySem.F.type_list_append mt_append (pe_ix ix_seq (pv 7) pe_int (fun _ _ => rfl)) (pa_cons pe_str pa_nil)))
  (pss_cons (ps_set (i := 7) nd rfl (.inl rfl) (pe_lst (pa_cons (pe_s s_feasts_so_far hr (passes_call (E := fun _ _ _ => False) LamX.takes0 fun _ _ _ _ h => h.elim) (pv 8) (pv 2)) (pa_cons (pe_s s_lots hr (passes_call (E := fun _ _ _ => False) LamX.takes0 fun _ _ _ _ h => h.elim) (pv 8) (pv 2)) pa_nil))))
  (pss_cons (ps_expr (pe_bm PySem.F.plainAttrs_list PySem.F.slot_list_extend PySem.F.type_list_extend mt_extend (pv 7) (pa_cons (pe_lst (pa_cons (pe_k c_feasts_so_far hr (passes_call (E := fun _ _ _ => False) LamX.takes0 fun _ _ _ _ h => h.elim) (pa_cons (pv 2) (pa_cons (pe_k c__law_f_put hr pass0 (pa_cons (pv 4) (pa_cons (pv 6) pa_nil))) pa_nil))) (pa_cons (pe_k c_lots hr (passes_call (E := fun _ _ _ => False) LamX.takes0 fun _ _ _ _ h => h.elim) (pa_cons (pv 2) (pa_cons (pv 4) pa_nil))) pa_nil))) pa_nil)))
  (pss_one (ps_if ((pw_or (pt_not (pt_val (pe_k c__law_same hr pass0 (pa_cons (pv 7) (pa_cons (pe_op op_cat (pv 9) (pv 9)) pa_nil))))) (pw_or1 (pt_cmpR op_notBl (pe_s s_is_begun hr (passes_call (E := fun _ _ _ => False) LamX.takes0 fun _ _ _ _ h => h.elim) (pv 8) (pv 2)) pe_bl (nomark _))))).pt (pss_one (ps_ret pe_bl)) pss_nil)))))))))))
  (pss_one (ps_ret pe_bl)))), ?_⟩
  refine ⟨_, rfl, _, rfl, a, f, ns, es, hs, rfl, ha, fo, pf, fun H1 v e1 sr1 vy1 => ?_⟩
  have fo1 := fo.ext e1 ha
  have pn1 := pf.n1
  have pn2 := pf.n2
  have pel := pf.el
  refine ⟨2, rfl, by decide, by decide, fun D2 hD2 => ?_⟩
  have nD : D2 ≠ a := fun z => by rw [z] at hD2; exact sr1.ne hD2
  refine lc_it walk_range (fun i G => Ext [a] H1 G ∧ Src G a ∧ ∃ acc, G D2 = some (.lst acc) ∧ acc.length = i ∧ ∀ u ∈ acc, BegL [a, D2] G es u) ⟨ext_new hD2, sr1.off nD, [], upd_same, rfl, fun u hu => by cases hu⟩ (fun _ _ _ _ => trivial) (fun i y Ga Gb lt I yy => ?_) fun G I => ?_
  · obtain ⟨e, sr, acc, hac, la, ba⟩ := I
    obtain ⟨rfl, rfl⟩ := yy
    refine ⟨rfl, _, rfl, _, rfl, a, f, ns, es, hs, rfl, sr, fo1.ext e sr1, pf, fun G2 p xs bs e2 sr2 f2 h2 pr bn sub lb => ?_⟩
    have hac2 := e2.at1 nD hac
    have pD : p ≠ D2 := fun z => by rw [z, hac] at f2; cases f2
    have pa : p ≠ a := fun z => by rw [z] at f2; exact sr.ne f2
    have lt2 : i < 2 := lt
    refine ⟨acc, hac2, lenZ (by omega), (e.trans e2).put hD2, sr2.off nD, _, upd_same, by simp [la], fun u hu => ?_⟩
    rcases List.mem_append.mp hu with hu | hu
    · obtain ⟨b, xs', bs', rfl, nb, hb, pr', r'⟩ := ba u hu
      have nb1 : b ≠ a := fun z => nb (by simp [z])
      have nb2 : b ≠ D2 := fun z => nb (by simp [z])
      exact ⟨b, xs', bs', rfl, nb, by rw [upd_ne nb2]; exact e2.at1 nb1 hb, pair_map pr' fun u w z => (z.ext e2 sr).updL hac2, r'⟩
    · rw [List.mem_singleton.mp hu]
      exact ⟨p, xs, bs, rfl, by simp [pa, pD], by rw [upd_ne pD]; exact h2, pair_map pr fun u w z => z.updL hac2, bn, sub, lb⟩
  · obtain ⟨e2, sr2, acc, hac, la, ba⟩ := I
    obtain ⟨v0, v1, rfl⟩ : ∃ v0 v1, acc = [v0, v1] := by
      match acc, la with
      | [v0, v1], _ => exact ⟨v0, v1, rfl⟩
    refine ⟨Nat.zero_le _, fun hl hhl => ⟨_, _, _, rfl, ?_⟩⟩
    have na : hl ≠ a := fun z => by rw [z] at hhl; exact sr2.ne hhl
    have nDh : D2 ≠ hl := fun z => by rw [← z, hac] at hhl; cases hhl
    have e12 : Ext [a] H G := e1.trans e2
    have hlH : H hl = none := e12.free1 na hhl
    have e3 : Ext [] G (upd G hl (.lst [])) := ext_new hhl
    have fo3 := (fo1.ext e2 sr1).ext0 e3
    have vy3 := (vy1.ext e2 sr1).ext0 e3
    have sr3 := sr2.ext e3
    have hl3 : (upd G hl (.lst [])) hl = some (.lst []) := upd_same
    have hac3 := e3.at0 hac
    have e13 : Ext [a] H (upd G hl (.lst [])) := e12.trans e3.of0
    have tb3 : Tabs (tabsT P1 P2) (upd G hl (.lst [])) := tabs_lst (L := [a]) tb (fun c hc => by
      obtain ⟨_, _, _, y⟩ := ha
      rw [List.mem_singleton.mp hc]
      exact ⟨_, y⟩) fun b o n h => e13 b o n h
    have beg3 : ∀ u, u = v0 ∨ u = v1 → BegL [a, hl] (upd G hl (.lst [])) es u := fun u hu => by
      obtain ⟨b, xs', bs', rfl, nb, hb, pr', r'⟩ := ba u (by
        rcases hu with rfl | rfl
        · simp
        · simp)
      have nb1 : b ≠ a := fun z => nb (by simp [z])
      have nb2 : b ≠ hl := ne_of_none hb hhl
      exact ⟨b, xs', bs', rfl, by simp [nb1, nb2], e3.at0 hb, pair_map pr' fun u w z => z.ext0 e3, r'⟩
    have fe : f = f := rfl
    obtain ⟨fa, n, r, hh, rs, rfl, na1, na2, na3, y1⟩ := fo1
    obtain ⟨fa', n', r', hh', rs', ef, nb1, nb2, nb3, y3⟩ := fo3
    cases ef
    have nhl : ∀ {b o}, G b = some o → b ≠ hl := fun h => ne_of_none h hhl
    have y2 := (show FoAt G fa n r hh rs ns es hs from by
      have z := (show Fo a H1 (.ref fa) ns es hs from ⟨fa, n, r, hh, rs, rfl, na1, na2, na3, y1⟩).ext e2 sr1
      exact ⟨sr1.off1 e2 y1.t (fun _ z => by cases z), e2.at1 na1 y1.n, e2.at1 na2 y1.r, pair_map y1.p fun u w z => z.ext e2 sr1, e2.at1 na3 y1.h⟩)
    clear y3 nb1 nb2 nb3
    have y3 : FoAt (upd G hl (.lst [])) fa n r hh rs ns es hs := ⟨e3.at0 y2.t, e3.at0 y2.n, e3.at0 y2.r, pair_map y2.p fun u w z => z.ext0 e3, e3.at0 y2.h⟩
    have nL1 : n ∉ [a, hl] := by simp [na1, nhl y2.n]
    have nL2 : r ∉ [a, hl] := by simp [na2, nhl y2.r]
    have nL3 : hh ∉ [a, hl] := by simp [na3, nhl y2.h]
    revert vy3 sr3 hl3 hac3 e13 tb3 beg3 y3
    clear e3
    generalize upd G hl (.lst []) = G3
    intro vy3 sr3 hl3 hac3 e13 tb3 beg3 y3
    -- the five
    refine ⟨_, rfl, ix_at (j := 0) (.inl hac3) rfl ⟨_, rfl, ix_at (j := 1) (.inl hac3) rfl ⟨_, rfl, ix_at (j := 0) (.inl hac3) rfl ⟨Nat.zero_le _, fun pe hpe => ?_⟩⟩⟩⟩
    have e4 : Ext [] G3 (upd G3 pe (.lst [])) := ext_new hpe
    refine ⟨_, rfl, ix_at (j := 1) (.inr (e4.at0 y3.t)) rfl ⟨by show 5 ≤ sizeLine; decide, fun tp htp => ?_⟩⟩
    have e5 : Ext [] G3 (upd (upd G3 pe (.lst [])) tp (.tup [v0, v1, v0, .ref pe, .ref r])) := e4.new htp
    have htp5 : (upd (upd G3 pe (.lst [])) tp (.tup [v0, v1, v0, .ref pe, .ref r])) tp = some (.tup [v0, v1, v0, .ref pe, .ref r]) := upd_same
    have hpe5 : (upd (upd G3 pe (.lst [])) tp (.tup [v0, v1, v0, .ref pe, .ref r])) pe = some (.lst []) := by rw [upd_ne (ne_of_none upd_same htp)]; exact upd_same
    have npe : pe ∉ [a, hl] := by
      have z1 : pe ≠ a := fun z => by rw [z] at hpe; exact sr3.ne hpe
      have z2 : pe ≠ hl := fun z => by rw [z, hl3] at hpe; cases hpe
      simp [z1, z2]
    revert e5 htp5 hpe5
    generalize upd (upd G3 pe (.lst [])) tp (.tup [v0, v1, v0, .ref pe, .ref r]) = G5
    intro e5 htp5 hpe5
    have vy5 := vy3.ext0 e5
    have sr5 := sr3.ext e5
    have hl5 := e5.at0 hl3
    have tb5 := tb3.ext fun b o h => e5.at0 h
    have y5 : FoAt G5 fa n r hh rs ns es hs := ⟨e5.at0 y3.t, e5.at0 y3.n, e5.at0 y3.r, pair_map y3.p fun u w z => z.ext0 e5, e5.at0 y3.h⟩
    have ls5 : Ls G5 [a, hl] := fun c hc => by
      simp only [List.mem_cons, List.not_mem_nil, or_false] at hc
      rcases hc with rfl | rfl
      · obtain ⟨_, _, _, y⟩ := sr5
        exact ⟨_, y⟩
      · exact ⟨_, hl5⟩
    have el5 : EL [a, hl] (tabsT P1 P2) G3 G5 := .ofT (.of tb3 e5)
    have ls3 : Ls G3 [a, hl] := fun c hc => by
      simp only [List.mem_cons, List.not_mem_nil, or_false] at hc
      rcases hc with rfl | rfl
      · obtain ⟨_, _, _, y⟩ := sr3
        exact ⟨_, y⟩
      · exact ⟨_, hl3⟩
    have beg5 : ∀ u ∈ [v0, v1, v0, V.ref pe, V.ref r], BegL [a, hl] G5 es u := fun u hu => by
      simp only [List.mem_cons, List.not_mem_nil, or_false] at hu
      rcases hu with rfl | rfl | rfl | rfl | rfl
      · exact el5.beg ls3 (beg3 _ (.inl rfl))
      · exact el5.beg ls3 (beg3 _ (.inr rfl))
      · exact el5.beg ls3 (beg3 _ (.inl rfl))
      · exact ⟨pe, [], [], rfl, npe, hpe5, .nil, List.nodup_nil, (fun e he => by cases he), Nat.zero_le _⟩
      · exact ⟨r, rs, es, rfl, nL2, y5.r, y5.p, pf.acy.nodup, fun e he => he, Nat.le_refl _⟩
    have eH5 : EL [a] (tabsT P1 P2) H G5 := ⟨fun b o n _ h => e5.at0 (e13 b o n h), tb5⟩
    refine ⟨tp, _, rfl, Sx.sq (.inr htp5), fun J Gq g0 gE wk => ?_⟩
    refine for_it wk (fun i τ G' => ∃ (v5 v6 v7 v8 v9 v10 : Option V), τ = [some (.ref a), some (.ref fa), some v, some (.ref D2), some (.ref hl), v5, v6, v7, v8, v9, v10] ∧ EL [a, hl] (tabsT P1 P2) G5 G' ∧ Src G' a ∧ Ls G' [a, hl])
      ⟨_, _, _, _, _, _, rfl, .ofT (.of tb5 .rfl), sr5, ls5⟩ (fun i τ G' _ ⟨_, _, _, _, _, _, _, e, _⟩ => gE G' fun o ho => by
        rw [htp5] at ho
        cases ho
        exact e.nl ls5 htp5) (fun i u τ Ga Gb lt I yy => ?_) (fun τ Ga I => ?_)
    · obtain ⟨v5, v6, v7, v8, v9, v10, rfl, el, sr, ls⟩ := I
      obtain ⟨rfl, hy⟩ := yy
      have bg := el.beg ls5 (beg5 u (List.mem_of_getElem? hy))
      have vy := el.vy ls5 vy5
      have yf := el.fo ls5 nL1 nL2 nL3 y5
      obtain ⟨b, xs, bs, rfl, nb, hb, pr, bnd, sub, lbe⟩ := bg
      have nb1 : b ≠ a := fun z => nb (by simp [z])
      have nb2 : b ≠ hl := fun z => nb (by simp [z])
      have foB : Fo a Gb (.ref fa) ns es hs := ⟨fa, n, r, hh, rs, rfl, na1, na2, na3, yf⟩
      have aL : a ∈ [a, hl] := by simp
      have aW : ∀ {G G' : Hp}, Ext [a] G G' → Ext [a, hl] G G' := fun e => e.wide fun c hc => by rw [List.mem_singleton.mp hc]; exact aL
      refine ⟨_, rfl, _, rfl, a, b, [a, hl], xs, bs, rfl, aL, ls, sr, nb1, hb, pr, by omega, fun G1 t gs e1 sr1 pg up => ?_⟩
      have ls1 := sr1.lists e1 ls
      have el1 : EL [a, hl] (tabsT P1 P2) Gb G1 := .ofExt el.t ls (aW e1)
      obtain ⟨sh, esh, hn1⟩ := up_hnd up
      have hb1 := e1.at1 nb1 hb
      have pr1 := pair_map pr fun u w z => z.ext e1 sr
      have fo1 := foB.ext e1 sr
      refine ⟨_, rfl, _, rfl, a, b, .ref fa, xs, ns, es, bs, hs, rfl, fo1, pf, hb1, pr1, sub, by omega, fun G2 c e2 hc => ?_⟩
      refine ⟨_, rfl, _, rfl, a, b, .ref fa, xs, ns, es, bs, hs, rfl, fo1.ext0 e2, pf, e2.at0 hb1, pair_map pr1 fun u w z => z.ext0 e2, sub, bnd, by omega, fun G3 d e3 ll3 => ?_⟩
      refine ⟨by show 2 ≤ sizeLine; decide, fun du hdu => ⟨_, _, rfl, ?_⟩⟩
      have e4 : Ext [] G3 (upd G3 du (.lst [.ref c, .ref d])) := ext_new hdu
      have hdu4 : (upd G3 du (.lst [.ref c, .ref d])) du = some (.lst [.ref c, .ref d]) := upd_same
      have hc4 := (e3.trans e4).at0 hc
      have ll4 := ll3.keep (fun b l _ h => e4.at0 h)
      have e14 := (e2.trans e3).trans e4
      revert e14 hdu4 hc4 ll4
      have fdd := ll3.1
      have ll3F := ll3
      clear e4
      generalize upd G3 du (.lst [.ref c, .ref d]) = G4
      intro hdu4 hc4 ll4 e14
      have hcG4 := hc4
      have sr4 := sr1.ext e14
      have ls4 : Ls G4 [a, hl] := fun c hc => by
        obtain ⟨l, hl'⟩ := ls1 c hc
        exact ⟨l, e14.at0 hl'⟩
      have el4 : EL [a, hl] (tabsT P1 P2) Gb G4 := el1.trans (.ofT (.of el1.t e14))
      have vy4 := el4.vy ls vy
      have hn4 := (EL.ofT (L := [a, hl]) (.of el1.t e14)).hnd hn1
      have hb4 := e14.at0 hb1
      have pr4 := pair_map pr1 fun u w z => z.ext0 e14
      rw [← esh] at pg
      have nm := hnd_nm pf pg sub
      have lsh : sh.2.length ≤ 1000 := by have := pg.length; rw [List.length_map] at this; omega
      have ok := hDs_ok nm lsh
      obtain ⟨tb', et, dp4⟩ := hnd_dp (K := K) hn4
      subst et
      have ls0 : Ls G4 [] := fun c hc => by cases hc
      have kg : ∀ {G : Hp}, EL [] (tabsT P1 P2) G4 G → KnGood G ns es (.ref tb') bs := fun e => hnd_good ((e.wide fun c hc => by cases hc).hnd hn4) pg sub bnd (by omega)
      have el44 : EL [] (tabsT P1 P2) G4 G4 := .ofT (.of el4.t .rfl)
      have dpG : ∀ {G : Hp}, EL [] (tabsT P1 P2) G4 G → Dp K G (.ref tb') (hDs sh) := fun e => by
        obtain ⟨tb2, et, dp⟩ := hnd_dp (K := K) ((e.wide fun c hc => by cases hc).hnd hn4)
        cases et
        exact dp
      -- was, found
      refine ⟨_, rfl, tb', hDs sh, rfl, dp4, ok, ?_⟩
      refine ⟨_, rfl, _, rfl, v, .ref tb', rfl, .inl ⟨ns, es, hs, bs, vy4, pf, kg el44, fun G5 c2 e5 f5 hc2 => ?_⟩⟩
      have el45 : EL [] (tabsT P1 P2) G4 G5 := .ofT (.of el4.t e5)
      refine ⟨_, rfl, _, rfl, v, .ref tb', rfl, el45.t, .inl ⟨ns, es, hs, bs, el45.vy ls0 vy4, pf, kg el45, fun G6 d2 e6 la2 => ?_⟩⟩
      refine ⟨by show 2 ≤ sizeLine; decide, fun fo hfo => ⟨_, _, rfl, ?_⟩⟩
      have e7 : ExtT (tabsT P1 P2) G5 (upd G6 fo (.lst [.ref c2, .ref d2])) := e6.then0 (ext_new hfo)
      have hfo7 : (upd G6 fo (.lst [.ref c2, .ref d2])) fo = some (.lst [.ref c2, .ref d2]) := upd_same
      have la7 : LotsAt G5 (upd G6 fo (.lst [.ref c2, .ref d2])) d2 (lotsF ns bs) := by
        obtain ⟨l1, vs, l2, l3⟩ := la2
        have eF : Ext [] G6 (upd G6 fo (.lst [.ref c2, .ref d2])) := ext_new hfo
        exact ⟨l1, vs, eF.at0 l2, pair_map l3 fun u l ⟨b, z1, z2, z3, z4⟩ => ⟨b, z1, z2, eF.at0 z3, z4⟩⟩
      revert e7 hfo7 la7
      generalize upd G6 fo (.lst [.ref c2, .ref d2]) = G7
      intro e7 hfo7 la7
      have el47 : EL [] (tabsT P1 P2) G4 G7 := el45.trans (.ofT e7)
      obtain ⟨vs2, hd7, lot7⟩ := la7.2
      have fd2 := la7.1
      have hc27 := e7.at_ hc2
      have hdu7 : G7 du = some (.lst [.ref c, .ref d]) := e7.at_ (e5.at0 hdu4)
      have hc7 : G7 c = some (.dK (mk ns fun z => .int (bCnt ns es bs z : Nat))) := e7.at_ (e5.at0 hc4)
      have ld7 := ll4.keep fdd fun b l _ h => e7.at_ (e5.at0 h)
      obtain ⟨lk1, lk2⟩ := lotsF_ok (bs := bs) pn2
      have alA : Al 4 G7 (.ref c2) (.ref c) := al_cnt pn2 hc27 hc7
      have alB : Al 3 G7 (.ref d2) (.ref d) := al_lt lk1 lk2 (la7.keep fun b l _ h => h) ld7
      have alAll : Al 5 G7 (.ref fo) (.ref du) := al_seq (n := 4) ⟨fo, du, _, _, rfl, rfl, .inl ⟨hfo7, hdu7⟩, by show 2 ≤ 5000; decide, .cons alA (.cons (al_up alB) .nil)⟩
      refine ⟨_, rfl, _, rfl, .ref fo, .ref du, rfl, alAll, fun G8 e8 => ⟨_, rfl, ?_⟩⟩
      have el48 : EL [] (tabsT P1 P2) G4 G8 := el47.trans (.ofT (.of el47.t e8))
      refine ⟨_, rfl, tb', hDs sh, rfl, dpG el48, ok, _, rfl, rfl, _, rfl, itN (by simp) ?_⟩
      refine ⟨_, rfl, _, rfl, v, .ref tb', rfl, .inl ⟨ns, es, hs, bs, el48.vy ls0 vy4, pf, kg el48, fun G9 e9 => ⟨true, true, rfl, rfl, _, rfl, itN (by simp) ?_⟩⟩⟩
      have e89 := e8.trans e9
      have el49 : EL [] (tabsT P1 P2) G4 G9 := el47.trans (.ofT (.of el47.t e89))
      have hfo9 := e89.at0 hfo7
      have hc29 := e89.at0 hc27
      have hd9 := e89.at0 hd7
      refine ⟨_, rfl, ix_at (j := 0) (.inl hfo9) rfl ⟨.inr (.inr (.inl ⟨rfl, .inl ⟨_, hc29⟩⟩)), c2, _, rfl, rfl, hc29, ?_⟩⟩
      -- what was got is spoilt
      have acyB := pf.acy.sub bnd sub
      have memB : ∀ e ∈ bs, e.1 ∈ ns ∧ e.2 ∈ ns := fun e he => pf.mem e (sub e he)
      obtain ⟨x0, lr, hlf⟩ := lotsF_ne acyB memB pn1
      rw [hlf] at lot7
      obtain ⟨w0, wr, rfl⟩ : ∃ w0 wr, vs2 = w0 :: wr := by
        cases vs2 with
        | nil => cases lot7
        | cons w0 wr => exact ⟨w0, wr, rfl⟩
      obtain ⟨b0, rfl, nb0, hb0, fb0⟩ : ∃ b, w0 = V.ref b ∧ b ≠ d2 ∧ G7 b = some (.lst (x0.map V.str)) ∧ FrN G5 b := by
        cases lot7 with
        | cons r _ => exact r
      have lx0 : x0.length ≤ 60 := lk2 x0 (by rw [hlf]; simp)
      have hb09 := e89.at0 hb0
      have fr : ∀ {p}, FrN G5 p → FrN G4 p := fun h => h.mono e5
      have el10 := el49.wr (o' := .dK []) (.none f5) hc29
      have hfo10 : (upd G9 c2 (.dK [])) fo = some (.lst [.ref c2, .ref d2]) := by rw [upd_ne (fun z => by rw [z, hc29] at hfo9; cases hfo9)]; exact hfo9
      have hd10 : (upd G9 c2 (.dK [])) d2 = some (.lst (V.ref b0 :: wr)) := by rw [upd_ne (fun z => by rw [z, hc29] at hd9; cases hd9)]; exact hd9
      have hb010 : (upd G9 c2 (.dK [])) b0 = some (.lst (x0.map V.str)) := by rw [upd_ne (fun z => by rw [z, hc29] at hb09; cases hb09)]; exact hb09
      revert el10 hfo10 hd10 hb010
      generalize upd G9 c2 (.dK []) = G10
      intro el10 hfo10 hd10 hb010
      refine ⟨_, rfl, ix_at (j := 1) (.inl hfo10) rfl (ix_at (j := 0) (.inl hd10) rfl ⟨tyl hb010, b0, _, _, rfl, rfl, hb010, lenZ (by rw [List.length_map]; omega), ?_⟩)⟩
      have nfb : fo ≠ b0 := fun z => by
        have h1 := hb0
        rw [← z, hfo7] at h1
        have h2 := congrArg (fun o : Option HO => match o with | some (.lst (V.ref _ :: _)) => true | _ => false) h1
        cases x0 with
        | nil => cases h2
        | cons y x0 => cases h2
      have el11 := el10.wr (o' := .lst (x0.map V.str ++ [.str "late"])) (fr fb0) hb010
      have hfo11 : (upd G10 b0 (.lst (x0.map V.str ++ [.str "late"]))) fo = some (.lst [.ref c2, .ref d2]) := by rw [upd_ne nfb]; exact hfo10
      have hd11 : (upd G10 b0 (.lst (x0.map V.str ++ [.str "late"]))) d2 = some (.lst (V.ref b0 :: wr)) := by rw [upd_ne (Ne.symm nb0)]; exact hd10
      revert el11 hfo11 hd11
      generalize upd G10 b0 (.lst (x0.map V.str ++ [.str "late"])) = G11
      intro el11 hfo11 hd11
      have lwr : (V.ref b0 :: wr).length ≤ 60 := by rw [lot7.length, ← hlf]; exact lk1
      refine ⟨_, rfl, ix_at (j := 1) (.inl hfo11) rfl ⟨tyl hd11, d2, _, _, rfl, rfl, hd11, lenZ (by omega), ?_⟩⟩
      have el12 := el11.wr (o' := .lst ((V.ref b0 :: wr) ++ [.str "late"])) (fr fd2) hd11
      revert el12
      generalize upd G11 d2 (.lst ((V.ref b0 :: wr) ++ [.str "late"])) = G12
      intro el12
      -- what was due stands yet
      have hb12 := el12.at_ (by simp) hb4
      obtain ⟨lh, hhl4⟩ := ls4 hl (by simp)
      have hhl12 := el12.at_ (by simp) hhl4
      have sr12 : Src G12 a := by
        obtain ⟨x1, x2, x3, y⟩ := sr4
        exact ⟨x1, x2, x3, el12.at_ (by simp) y⟩
      -- again, by name
      refine ⟨_, rfl, _, rfl, v, .ref tb', rfl, .inl ⟨ns, es, hs, bs, el12.vy ls0 vy4, pf, kg el12, fun G13 c3 e13 f13 hc3 => ?_⟩⟩
      have el13 : EL [] (tabsT P1 P2) G4 G13 := el12.trans (.ofT (.of el12.t e13))
      refine ⟨_, rfl, _, rfl, v, .ref tb', rfl, el13.t, .inl ⟨ns, es, hs, bs, el13.vy ls0 vy4, pf, kg el13, fun G14 d3 e14' la3 => ?_⟩⟩
      have el14 : EL [] (tabsT P1 P2) G4 G14 := el13.trans (.ofT e14')
      refine ⟨by show 2 ≤ sizeLine; decide, fun fo2 hfo2 => ?_⟩
      have e15 : Ext [] G14 (upd G14 fo2 (.lst [.ref c3, .ref d3])) := ext_new hfo2
      have hfo15 : (upd G14 fo2 (.lst [.ref c3, .ref d3])) fo2 = some (.lst [.ref c3, .ref d3]) := upd_same
      have el15 : EL [] (tabsT P1 P2) G4 (upd G14 fo2 (.lst [.ref c3, .ref d3])) := el14.trans (.ofT (.of el14.t e15))
      revert e15 hfo15 el15
      generalize upd G14 fo2 (.lst [.ref c3, .ref d3]) = G15
      intro e15 hfo15 el15
      have nfh : fo2 ≠ hl := fun z => by
        have z2 := el14.at_ (by simp) hhl4
        rw [← z, hfo2] at z2
        cases z2
      have hhl15 := el15.at_ (by simp) hhl4
      refine ⟨_, rfl, tyl hfo15, _, rfl, _, rfl, _, rfl, hl, b, lh, xs, rfl, Ne.symm nb2, hhl15, el15.at_ (by simp) hb4, by have := pr4.length; omega, fun G16 e16 hh16 => ?_⟩
      have lsH : Ls G15 [hl] := fun c hc => by
        rw [List.mem_singleton.mp hc]
        exact ⟨_, hhl15⟩
      have el1516 : EL [hl] (tabsT P1 P2) G15 G16 := .ofExt el15.t lsH e16
      have el16 : EL [hl] (tabsT P1 P2) G4 G16 := (el15.wide fun c hc => by cases hc).trans el1516
      have lsH4 : Ls G4 [hl] := fun c hc => by
        rw [List.mem_singleton.mp hc]
        exact ⟨_, hhl4⟩
      have prG : ∀ {G : Hp}, EL [hl] (tabsT P1 P2) G4 G → Paired (TupE G) xs bs := fun e => pair_map pr4 fun u w z => e.te lsH4 z
      refine ⟨v, .ref hl, rfl, .inl ⟨ns, es, hs, bs, el16.vy lsH4 vy4, pf, good_te hh16 (prG el16) sub bnd (by omega), fun G17 c4 e17 f17 hc4 => ?_⟩⟩
      have el17 : EL [hl] (tabsT P1 P2) G4 G17 := el16.trans (.ofT (.of el16.t e17))
      have hh17 := e17.at0 hh16
      refine ⟨_, rfl, _, rfl, v, .ref hl, rfl, el17.t, .inl ⟨ns, es, hs, bs, el17.vy lsH4 vy4, pf, good_te hh17 (prG el17) sub bnd (by omega), fun G18 d4 e18 la4 => ?_⟩⟩
      refine ⟨by show 2 ≤ sizeLine; decide, fun p19 hp19 => ?_⟩
      have e19 : Ext [] G18 (upd G18 p19 (.lst [.ref c4, .ref d4])) := ext_new hp19
      have hp20 : (upd G18 p19 (.lst [.ref c4, .ref d4])) p19 = some (.lst [.ref c4, .ref d4]) := upd_same
      revert e19 hp20
      generalize upd G18 p19 (.lst [.ref c4, .ref d4]) = G19
      intro e19 hp20
      have e1719 : ExtT (tabsT P1 P2) G17 G19 := e18.then0 e19
      have hfo16 := e16.at1 nfh hfo15
      have hfo17 := e17.at0 hfo16
      have hfo19 := e1719.at_ hfo17
      refine ⟨fo2, p19, _, _, rfl, rfl, hfo19, hp20, by show 2 + 2 ≤ sizeLine; decide, ?_⟩
      have el19 : EL [hl] (tabsT P1 P2) G4 G19 := el17.trans (.ofT e1719)
      have frf : FrN G4 fo2 := fun o ho => by
        by_cases q : ∃ ps, o = .tbl ps
        · exact q
        · have := el14.n fo2 o (by simp) (fun ps z => q ⟨ps, z⟩) ho
          rw [hfo2] at this
          cases this
      have el20 := el19.wr (o' := .lst ([.ref c3, .ref d3] ++ [.ref c4, .ref d4])) frf hfo19
      have hfo20 : (upd G19 fo2 (.lst ([.ref c3, .ref d3] ++ [.ref c4, .ref d4]))) fo2 = some (.lst ([.ref c3, .ref d3] ++ [.ref c4, .ref d4])) := upd_same
      have k20 : ∀ {q o}, q ≠ fo2 → G19 q = some o → (upd G19 fo2 (.lst ([.ref c3, .ref d3] ++ [.ref c4, .ref d4]))) q = some o := fun n h => by
        rw [upd_ne n]
        exact h
      revert el20 hfo20 k20
      generalize upd G19 fo2 (.lst ([.ref c3, .ref d3] ++ [.ref c4, .ref d4])) = G20
      intro el20 hfo20 k20
      -- all that was told
      have hc315 : G15 c3 = some (.dK (mk ns fun z => .int (bCnt ns es bs z : Nat))) := e15.at0 (e14'.at_ hc3)
      have hc320 : G20 c3 = some (.dK (mk ns fun z => .int (bCnt ns es bs z : Nat))) := k20 (fun z => by rw [z, hfo15] at hc315; cases hc315) (e1719.at_ (e17.at0 (e16.at1 (fun z => by rw [z, hhl15] at hc315; cases hc315) hc315)))
      have hc419 : G19 c4 = some (.dK (mk ns fun z => .int (bCnt ns es bs z : Nat))) := e1719.at_ hc4
      have hc420 : G20 c4 = some (.dK (mk ns fun z => .int (bCnt ns es bs z : Nat))) := k20 (fun z => by rw [z, hfo19] at hc419; cases hc419) hc419
      have ld320 : LtAt G13 G20 d3 (lotsF ns bs) := la3.keep fun q l fq hq => by
        have n1 : q ≠ hl := fun z => by
          obtain ⟨ps, y⟩ := fq _ (z ▸ (el13.at_ (by simp) hhl4))
          cases y
        have n2 : q ≠ fo2 := fun z => by rw [z, hfo2] at hq; cases hq
        exact k20 n2 (e1719.at_ (e17.at0 (e16.at1 n1 (e15.at0 hq))))
      have ld420 : LtAt G17 G20 d4 (lotsF ns bs) := la4.keep fun q l fq hq => by
        have n2 : q ≠ fo2 := fun z => by
          obtain ⟨ps, y⟩ := fq _ (z ▸ hfo17)
          cases y
        exact k20 n2 (e19.at0 hq)
      have hdu20 : G20 du = some (.lst [.ref c, .ref d]) := by
        refine el20.at_ (fun m => ?_) hdu4
        have m := List.mem_singleton.mp m
        obtain ⟨l1, h1⟩ := ls1 hl (by simp)
        rw [m] at hdu
        have h3 := e3.at0 (e2.at0 h1)
        rw [hdu] at h3
        cases h3
      have hc20 : G20 c = some (.dK (mk ns fun z => .int (bCnt ns es bs z : Nat))) := el20.at_ (fun m => by
        have m := List.mem_singleton.mp m
        rw [m, hhl4] at hcG4
        cases hcG4) hcG4
      have ld20 : LtAt G2 G20 d (lotsF ns bs) := ll4.keep fdd fun q l fq hq => el20.at_ (fun m => by
        have m := List.mem_singleton.mp m
        obtain ⟨l1, h1⟩ := ls1 hl (by simp)
        obtain ⟨ps, y⟩ := fq _ (m ▸ (e2.at0 h1))
        cases y) hq
      have alX : ∀ {p}, G20 p = some (.dK (mk ns fun z => .int (bCnt ns es bs z : Nat))) → Al 4 G20 (.ref p) (.ref c) := fun h => al_cnt pn2 h hc20
      have alY : ∀ {H1 p}, LtAt H1 G20 p (lotsF ns bs) → Al 4 G20 (.ref p) (.ref d) := fun h => al_up (al_lt lk1 lk2 h ld20)
      refine ⟨_, rfl, _, rfl, _, rfl, du, du, _, _, rfl, rfl, hdu20, hdu20, by show 2 + 2 ≤ sizeLine; decide, fun dd hdd => ?_⟩
      have e21 : Ext [] G20 (upd G20 dd (.lst ([.ref c, .ref d] ++ [.ref c, .ref d]))) := ext_new hdd
      refine ⟨.ref fo2, .ref dd, rfl, al_seq (n := 4) ⟨fo2, dd, _, _, rfl, rfl, .inl ⟨e21.at0 hfo20, upd_same⟩, by show 4 ≤ 5000; decide, .cons ((alX hc320).ext e21) (.cons ((alY ld320).ext e21) (.cons ((alX hc420).ext e21) (.cons ((alY ld420).ext e21) .nil)))⟩, fun G22 e22 => ⟨_, rfl, ?_⟩⟩
      have el22 : EL [hl] (tabsT P1 P2) G4 G22 := el20.trans (.ofT (.of el20.t (e21.trans e22)))
      have kgH : ∀ {G : Hp}, EL [hl] (tabsT P1 P2) G4 G → KnGood G ns es (.ref tb') bs := fun e => hnd_good ((e.wide fun c hc => by rw [List.mem_singleton.mp hc]; simp).hnd hn4) pg sub bnd (by omega)
      refine ⟨_, rfl, _, rfl, v, .ref tb', rfl, .inl ⟨ns, es, hs, bs, el22.vy lsH4 vy4, pf, kgH el22, fun G23 e23 => ⟨true, true, rfl, rfl, _, rfl, itN (by simp) ?_⟩⟩⟩
      have el23 : EL [hl] (tabsT P1 P2) G4 G23 := el22.trans (.ofT (.of el22.t e23))
      have hl23 : ∃ l, G23 hl = some (.lst l) := by
        have h19 := e1719.at_ hh17
        have h20 := k20 (Ne.symm nfh) h19
        exact ⟨_, (e21.trans (e22.trans e23)).at0 h20⟩
      have sr23 : Src G23 a := by
        obtain ⟨x1, x2, x3, y⟩ := sr4
        exact ⟨x1, x2, x3, el23.at_ (by simp [Ne.symm na]) y⟩
      refine ⟨_, _, _, _, _, _, rfl, (el.trans el4).trans (el23.wide fun c hc => by rw [List.mem_singleton.mp hc]; simp), sr23, fun c hc => ?_⟩
      simp only [List.mem_cons, List.not_mem_nil, or_false] at hc
      rcases hc with rfl | rfl
      · obtain ⟨_, _, _, y⟩ := sr23
        exact ⟨_, y⟩
      · exact hl23
    · obtain ⟨v5, v6, v7, v8, v9, v10, rfl, el, sr, ls⟩ := I
      refine q Ga ⟨fun b o n k h => ?_, el.t⟩ sr
      have h5 := eH5.n b o n k h
      refine el.n b o (fun m => ?_) k h5
      simp only [List.mem_cons, List.not_mem_nil, or_false] at m
      rcases m with rfl | rfl
      · exact n (by simp)
      · rw [hlH] at h
        cases h
end
end K70

/-! K7T: met. -/
namespace K70
open PySem PySem.Spec PyProof.Rows L2 LamX
/-- what met makes of an exception -/
def MetE (CG CB : Addr) (Q : VK) : XK := fun cls d H' => ∃ (dd : Addr) (v : V), d = some dd ∧ ((cls = .ref CG ∧ H' dd = some (.xd [("thing", v)]) ∧ ∀ p, H' p = none → Q (.ref p) (upd H' p (.tup [.str "valley", v]))) ∨
  (cls = .ref CB ∧ H' dd = some (.xd [("begun", v)]) ∧ ∀ p, H' p = none → Q (.ref p) (upd H' p (.tup [.str "begun", v]))))
def TMet (CG CB : Addr) : (XK → Hp → VK → Prop) → Hp → VK → Prop := fun tl H Q => tl (MetE CG CB Q) H (fun v H' => [V.str "told", v].length ≤ sizeLine ∧ ∀ p, H' p = none → Q (.ref p) (upd H' p (.tup [.str "told", v])))
abbrev N__law_met : List PySem.Str := ["_law_ask", "e"]
theorem met_gives {X : Cx} {CV CG CB g : Addr} {cdg : Value} {q : PySem.Str} (T : Tx X.prog X.K X.mg CV CG CB) : GivesTo X N__law_met "_law_met" (defScope (topS 56)) g cdg (defBody (topS 56)) "_law_ask" q (TMet CG CB) := by
  intro f c' s H Q tl act hc h
  have nd : N__law_met.Nodup := by decide
  refine ⟨_, pss_one (ps_try_all (X := (cxOf C8.CX0 X.prog X.w X.K X.mg X.base N__law_met "_law_met" (defScope (topS 56)) g cdg X.A X.stack s H C8.E0).nox) (n := "e") (i := 1)
      (tb := fun W D σ H => ∃ Ech : XK, (∀ cls d σ' H', Ech cls d H' → W cls d σ' H') ∧ σ[0]? = some (some (.ref f)) ∧ H c' = some (CodeO c' q) ∧ tl Ech H fun v H' => [V.str "told", v].length ≤ sizeLine ∧ ∀ p, H' p = none → D.rt (.ref p) (upd H' p (.tup [.str "told", v])))
      rfl rfl nd rfl rfl (fun W pn xe tk _ => ?_) (.cons (c := .ref CG) ⟨rfl, by decide, .inl T.gBadValley⟩ (fun a oe cls d pn hz hf => pss_one (ps_ret (pe_tup (pa_cons pe_str (pa_cons (pe_xf T.exG.1 T.exG.2 hz hf (pv 1)) pa_nil))))) (.cons (c := .ref CB) ⟨rfl, by decide, .inl T.gBadBegun⟩ (fun a oe cls d pn hz hf => pss_one (ps_ret (pe_tup (pa_cons pe_str (pa_cons (pe_xf T.exB.1 T.exB.2 hz hf (pv 1)) pa_nil))))) .nil))), ?_⟩
  · refine ⟨fun pins s' σ H' D I h' => ?_⟩
    obtain ⟨Ech, hW, h1, h2, h3⟩ := h'
    exact (pss_one (ps_ret (pe_tup (pa_cons pe_str (pa_cons (act W pn xe Ech _ _ tk hW) pa_nil))))).run pins s' σ H' D I ⟨h1, h2, h3⟩
  · refine ⟨MetE CG CB Q, fun cls d σ' H' ⟨dd, v, e, cs⟩ => ?_, rfl, hc, h⟩
    subst e
    rcases cs with ⟨rfl, hx, k⟩ | ⟨rfl, hx, k⟩
    · refine ⟨true, T.e1, fun _ a ha hl => ?_, fun z => by cases z⟩
      refine ⟨_, List.getElem?_set_self (by rw [hl]; show 1 < 2; decide), rfl, rfl, dd, _, v, rfl, hx, rfl, by show 2 ≤ sizeLine; decide, fun p hp => k p hp⟩
    · refine ⟨false, T.e2, fun z => (by cases z), fun _ => ⟨true, T.e3, fun _ a ha hl => ?_, fun z => by cases z⟩⟩
      refine ⟨_, List.getElem?_set_self (by rw [hl]; show 1 < 2; decide), rfl, rfl, dd, _, v, rfl, hx, rfl, by show 2 ≤ sizeLine; decide, fun p hp => k p hp⟩
end K70

/-! K7U: what is refused. -/
namespace K70
open PySem PySem.Spec PyProof.Rows L2 LamX
section
variable {P : Program} {w : World} {K : PySem.W.Frag} {mg : Str → Option Value} {base : Heap} {CV CG CB : Addr}
theorem sc__law_met : FnScope N__law_met ["_law_ask"] (defScope (topS 56)) := ⟨rfl, rfl, rfl, by decide +kernel, rfl, by decide +kernel, by decide +kernel⟩
theorem bb__law_met : BindsBy "_law_met" (topS 56) ["_law_ask"] := fun _ _ _ _ _ _ us hl => match us, hl with | [_], _ => rfl
def spRefused (P1 P2 : Addr) : Sp := fun vs H Q _ => ∃ a : Addr, vs = [.ref a] ∧ Src H a ∧ Tabs (tabsT P1 P2) H ∧ ∀ H', EL [a] (tabsT P1 P2) H H' → Src H' a → Q (.bl true) H'
theorem DfC.cl7 {x : Str} {st : Stmt} {N ps : List Str} {k : Nat} {sp : Sp} {c : Addr} (D : DfC K mg x st c) (S : FnScope N ps (defScope st)) (hb : BindsBy x st ps) (len : ∀ vs H Q E, sp vs H Q E → vs.length = ps.length)
    (body : ∀ (f : Addr) (A : Around) (outer : List Env) (s : Shared) (H : Hp) (vs : List V) (Q : VK) (E : XK), Room k (A.deeper (envOfC x (defScope st) s.heap.objs.size f (.ref c))) → sp vs H Q E →
      ∃ t, PSs (cxOf CX0 P w K mg base N x (defScope st) f (.ref c) A outer s H E).nox (defBody st) t ∧ t { nx := fun _ H' => Q .non H', rt := Q } (start N vs) H) : Cl P w K mg base CX0 (k + 1) x sp := D.cl0 S hb len body
abbrev N__law_refused_right : List PySem.Str := ["_law_source_here", "_law_form", "_law_valley", "_law_odd", "_law_found", "_law_first", "_law_last"]
theorem sc__law_refused_right : FnScope N__law_refused_right ["_law_source_here"] (defScope (topS 58)) := ⟨rfl, rfl, rfl, by decide +kernel, rfl, by decide +kernel, by decide +kernel⟩
theorem bb__law_refused_right : BindsBy "_law_refused_right" (topS 58) ["_law_source_here"] := fun _ _ _ _ _ _ us hl => match us, hl with | [_], _ => rfl
theorem Kd.extN {H H' : Hp} {x : V} {s : String} (e : ExtN H H') : Kd H x s → Kd H' x s
  | .non => .non
  | .bl b => .bl b
  | .int i => .int i
  | .str z => .str z
  | .lst h => .lst (e _ _ h fun _ z => by cases z)
  | .tup h => .tup (e _ _ h fun _ z => by cases z)
  | .dK h => .dK (e _ _ h fun _ z => by cases z)
  | .dT h => .dT (e _ _ h fun _ z => by cases z)
theorem Sx.extN {H H' : Hp} {b : Addr} {xs : List V} (e : ExtN H H') (h : Sx H b xs) : Sx H' b xs := h.elim (fun h => .inl (e _ _ h fun _ z => by cases z)) fun h => .inr (e _ _ h fun _ z => by cases z)
theorem RdIn.extN {H H' : Hp} {ns : List PySem.Str} {es : List Ed} {t : V} {o : Option Ed} (e : ExtN H H') : RdIn H ns es t o → RdIn H' ns es t o
  | .good h m s => .good (h.extN e) m s
  | .kind h n => .kind (h.extN e) n
  | .len h n l => .len (h.extN e) n l
  | .no h n => .no (h.extN e) n
theorem KnOdd.extN {H H' : Hp} {ns : List PySem.Str} {es : List Ed} {v : V} (e : ExtN H H') (h : KnOdd H ns es v) : KnOdd H' ns es v := by
  rcases h with ⟨s, k, n⟩ | ⟨b, xs, os, e1, h1, h2, h3, h4⟩
  · exact .inl ⟨s, k.extN e, n⟩
  · exact .inr ⟨b, xs, os, e1, h1.extN e, h2, pair_map h3 fun x o r => r.extN e, h4⟩
theorem EL.toN {T : List (Addr × PySem.Str)} {H H' : Hp} (e : EL [] T H H') : ExtN H H' := fun b o h n => e.n b o (by simp) n h
theorem met_thing {T : List (Addr × PySem.Str)} {H : Hp} {u : V} {Q : VK} (tb : Tabs T H) (k : ∀ H' p, EL [] T H H' → H' p = some (.tup [.str "valley", u]) → Q (.ref p) H') : Refd CG "thing" u H (MetE CG CB Q) := fun H' d e f g => ⟨d, u, rfl, .inl ⟨rfl, g, fun p hp => k _ p (.ofT ((ExtT.of tb e).then0 (ext_new hp))) upd_same⟩⟩
theorem met_begun {T : List (Addr × PySem.Str)} {H : Hp} {u : V} {Q : VK} (tb : Tabs T H) (k : ∀ H' p, EL [] T H H' → H' p = some (.tup [.str "begun", u]) → Q (.ref p) H') : Refd CB "begun" u H (MetE CG CB Q) := fun H' d e f g => ⟨d, u, rfl, .inr ⟨rfl, g, fun p hp => k _ p (.ofT ((ExtT.of tb e).then0 (ext_new hp))) upd_same⟩⟩
theorem al_dK {H : Hp} {c d : Addr} {kvs : List (Key × V)} (l : kvs.length ≤ 5000) (k : ∀ kv ∈ kvs, Atm (kV kv.1) ∧ Atm kv.2) (hc : H c = some (.dK kvs)) (hd : H d = some (.dK kvs)) : Al 4 H (.ref c) (.ref d) := al_dct (n := 1) ⟨c, d, rfl, rfl, .inl ⟨_, hc⟩, .inl ⟨_, hd⟩, fun H' ps qs e a1 a2 => by
  have key : ∀ b ps, H' b = some (.dK kvs) → EntOf H' b ps → ps = kvs.map fun kv => (kV kv.1, kv.2) := fun b ps hb a => by
    rcases a with ⟨kvs', y, x⟩ | ⟨kvs', y, x⟩
    · rw [hb] at y
      cases y
      exact x
    · rw [hb] at y
      cases y
  rw [key c ps (e _ _ hc (fun _ z => by cases z)) a1, key d qs (e _ _ hd (fun _ z => by cases z)) a2]
  refine ⟨by rw [List.length_map]; omega, pair_self fun x hx => ?_⟩
  obtain ⟨kv, hk, rfl⟩ := List.mem_map.mp hx
  exact ⟨al_atm (k kv hk).1, al_atm (k kv hk).2⟩⟩
theorem ok_refused (T : Tx P K mg CV CG CB) {c P1 P2 : Addr} (D : DfC K mg "_law_refused_right" (topS 58) c) (TB : TabB base mg c P2) (n12 : P1 ≠ P2) (Dm : Df K mg "_law_met" (topS 56)) (c__law_f_small : Cl P w K mg base CX0 5 "_law_f_small" spSmall) (c__law_f_valley : Cl P w K mg base CX0 6 "_law_f_valley" (spValley CV))
    (c__law_f_odd_valleys : Cl P w K mg base CX0 1 "_law_f_odd_valleys" spOddV) (c__law_f_odd_begun : Cl P w K mg base CX0 1 "_law_f_odd_begun" spOddB) (c_feasts_so_far : Cl P w K mg base (L2.CX P w) 5 "feasts_so_far" (spSoFar CV CG CB)) (c_lots : Cl P w K mg base (L2.CX P w) 5 "lots" (spLots CV CG CB P1 P2))
    (c_is_begun : Cl P w K mg base (L2.CX P w) 4 "is_begun" (spIsBegun CV CG)) (c__law_same : Cl P w K mg base CX0 9 "_law_same" (spSame 8)) : Cl P w K mg base CX0 10 "_law_refused_right" (spRefused P1 P2) := by
  obtain ⟨g, fdm, Fm, gm⟩ := Dm.ex
  have hbm := Fm.bindsN bb__law_met
  have kpm := Fm.kp
  obtain ⟨oc, od, dV, kV, doc, pm, an, cdvm, ct, osl, rfl, lkm, hcm, _, _⟩ := Fm.ex
  have hmT : (P2, ("_law_refused_right.<locals>.<lambda>" : PySem.Str)) ∈ tabsT P1 P2 := List.mem_cons_of_mem _ (List.mem_cons_self ..)
  have hu2 : ∀ p ∈ tabsT P1 P2, p.1 = P2 → p.2 = "_law_refused_right.<locals>.<lambda>" := fun p hp e => by
    rcases List.mem_cons.mp hp with rfl | hp
    · exact absurd e n12
    · rw [List.mem_singleton.mp hp]
  refine D.cl7 sc__law_refused_right bb__law_refused_right (fun vs H Q E ⟨_, e, _⟩ => by rw [e]; rfl) fun f A outer s H vs Q E hr h => ?_
  have nd := sc__law_refused_right.nd
  obtain ⟨a, rfl, ha, tb, q⟩ := h
  refine ⟨_, (pss_cons (ps_set (i := 1) nd rfl (.inl rfl) (pe_k c__law_f_small hr pass0 (pa_cons (pv 0) (pa_cons pe_int (pa_cons pe_int pa_nil)))))
  (pss_cons (ps_set (i := 2) nd rfl (.inr rfl) (pe_k c__law_f_valley hr pass0 (pa_cons (pv 0) (pa_cons (pv 1) pa_nil))))
  (pss_cons (ps_for PassesOwn.never rfl (pi_seqP (pe_k c__law_f_odd_valleys hr pass0 (pa_cons (pv 1) pa_nil))) (pg_name (i := 3) nd rfl (.inr rfl))
    (pss_cons (ps_set (i := 4) nd rfl (.inl rfl) (pe_lst (pa_cons (pe_lamcall (T := tabsT P1 P2) (TT := TMet CG CB) (k := 5) (t := fun E => tK (spIsBegun CV CG) E (tCons (tVar 3) (tCons (tC .non) tNil))) (by rfl) gm kpm lkm hcm hbm sc__law_met rfl (.inl rfl) (met_gives T) TB rfl hmT hu2 (hr.mono (by decide)) (lamS_by (sc := defScope (topS 58)) (by decide +kernel)) rfl (fun _ _ _ _ _ => rfl) (fun A outer s H E f c' hr2 => pe_k c_is_begun hr2 (passes_call (takes_of rfl rfl rfl rfl) fun _ _ _ _ h => h) (pa_cons (pv 3) (pa_cons pe_non pa_nil)))) pa_nil)))
  (pss_cons (ps_expr (pe_bm PySem.F.plainAttrs_list PySem.F.slot_list_append PySem.F.type_list_append mt_append (pv 4) (pa_cons (pe_lamcall (T := tabsT P1 P2) (TT := TMet CG CB) (k := 5) (t := fun E => tK (spSoFar CV CG CB) E (tCons (tVar 3) (tCons (tC .non) tNil))) (by rfl) gm kpm lkm hcm hbm sc__law_met rfl (.inl rfl) (met_gives T) TB rfl hmT hu2 (hr.mono (by decide)) (lamS_by (sc := defScope (topS 58)) (by decide +kernel)) rfl (fun _ _ _ _ _ => rfl) (fun A outer s H E f c' hr2 => pe_k c_feasts_so_far hr2 (passes_call (takes_of rfl rfl rfl rfl) fun _ _ _ _ h => h) (pa_cons (pv 3) (pa_cons pe_non pa_nil)))) pa_nil)))
  (pss_cons (ps_expr (pe_bm PySem.F.plainAttrs_list PySem.F.slot_list_append PySem.F.type_list_append mt_append (pv 4) (pa_cons (pe_lamcall (T := tabsT P1 P2) (TT := TMet CG CB) (k := 5) (t := fun E => tK (spLots CV CG CB P1 P2) E (tCons (tVar 3) (tCons (tC .non) tNil))) (by rfl) gm kpm lkm hcm hbm sc__law_met rfl (.inl rfl) (met_gives T) TB rfl hmT hu2 (hr.mono (by decide)) (lamS_by (sc := defScope (topS 58)) (by decide +kernel)) rfl (fun _ _ _ _ _ => rfl) (fun A outer s H E f c' hr2 => pe_k c_lots hr2 (passes_call (takes_of rfl rfl rfl rfl) fun _ _ _ _ h => h) (pa_cons (pv 3) (pa_cons pe_non pa_nil)))) pa_nil)))
  (pss_one (ps_if (pt_not (pt_val (pe_k c__law_same hr pass0 (pa_cons (pv 4) (pa_cons (pe_op op_rep (pe_lst (pa_cons (pe_tup (pa_cons pe_str (pa_cons (pv 3) pa_nil))) pa_nil)) pe_int) pa_nil))))) (pss_one (ps_ret pe_bl)) pss_nil))))))
  (pss_cons (ps_for PassesOwn.never rfl (pi_seqP (pe_k c__law_f_odd_begun hr pass0 (pa_cons (pv 1) pa_nil))) (pg_name (i := 3) nd rfl (.inr rfl))
    (pss_cons (ps_set (i := 4) nd rfl (.inl rfl) (pe_lst (pa_cons (pe_lamcall (T := tabsT P1 P2) (TT := TMet CG CB) (k := 5) (t := fun E => tK (spSoFar CV CG CB) E (tCons (tVar 2) (tCons (tVar 3) tNil))) (by rfl) gm kpm lkm hcm hbm sc__law_met rfl (.inl rfl) (met_gives T) TB rfl hmT hu2 (hr.mono (by decide)) (lamS_by (sc := defScope (topS 58)) (by decide +kernel)) rfl (fun _ _ _ _ _ => rfl) (fun A outer s H E f c' hr2 => pe_k c_feasts_so_far hr2 (passes_call (takes_of rfl rfl rfl rfl) fun _ _ _ _ h => h) (pa_cons (pv 2) (pa_cons (pv 3) pa_nil)))) pa_nil)))
  (pss_cons (ps_expr (pe_bm PySem.F.plainAttrs_list PySem.F.slot_list_append PySem.F.type_list_append mt_append (pv 4) (pa_cons (pe_lamcall (T := tabsT P1 P2) (TT := TMet CG CB) (k := 5) (t := fun E => tK (spLots CV CG CB P1 P2) E (tCons (tVar 2) (tCons (tVar 3) tNil))) (by rfl) gm kpm lkm hcm hbm sc__law_met rfl (.inl rfl) (met_gives T) TB rfl hmT hu2 (hr.mono (by decide)) (lamS_by (sc := defScope (topS 58)) (by decide +kernel)) rfl (fun _ _ _ _ _ => rfl) (fun A outer s H E f c' hr2 => pe_k c_lots hr2 (passes_call (takes_of rfl rfl rfl rfl) fun _ _ _ _ h => h) (pa_cons (pv 2) (pa_cons (pv 3) pa_nil)))) pa_nil)))
  (pss_one (ps_if ((pw_or (pt_not (pt_val (pe_k c__law_same hr pass0 (pa_cons (pv 4) (pa_cons (pe_op op_rep (pe_lst (pa_cons (pe_tup (pa_cons pe_str (pa_cons (pv 3) pa_nil))) pa_nil)) pe_int) pa_nil))))) (pw_or1 (pt_cmpR op_notBl (pe_k c_is_begun hr (passes_call (E := fun _ _ _ => False) LamX.takes0 fun _ _ _ _ h => h.elim) (pa_cons (pv 2) (pa_cons (pv 3) pa_nil))) pe_bl (nomark _))))).pt (pss_one (ps_ret pe_bl)) pss_nil)))))
  (pss_cons (ps_asg (pe_tup (pa_cons (pe_lst (pa_cons pe_str pa_nil)) (pa_cons (pe_disp (pps_cons pe_str pe_int pps_nil) rfl rfl (by simp) (by decide)) pa_nil))) (pg_tup rfl (pgs_cons (pg_name (i := 5) nd rfl (.inr rfl)) (pgs_cons (pg_name (i := 6) nd rfl (.inr rfl)) pgs_nil))))
  (pss_cons (ps_set (i := 4) nd rfl (.inl rfl) (pe_lst (pa_cons (pe_lamcall (T := tabsT P1 P2) (TT := TMet CG CB) (k := 5) (t := fun E => tK (spSoFar CV CG CB) E (tCons (tVar 2) (tCons (tVar 5) tNil))) (by rfl) gm kpm lkm hcm hbm sc__law_met rfl (.inl rfl) (met_gives T) TB rfl hmT hu2 (hr.mono (by decide)) (lamS_by (sc := defScope (topS 58)) (by decide +kernel)) rfl (fun _ _ _ _ _ => rfl) (fun A outer s H E f c' hr2 => pe_k c_feasts_so_far hr2 (passes_call (takes_of rfl rfl rfl rfl) fun _ _ _ _ h => h) (pa_cons (pv 2) (pa_cons (pv 5) pa_nil)))) pa_nil)))
  (pss_cons (ps_expr (pe_bm PySem.F.plainAttrs_list PySem.F.slot_list_append PySem.F.type_list_append mt_append (pv 4) (pa_cons (pe_lamcall (T := tabsT P1 P2) (TT := TMet CG CB) (k := 5) (t := fun E => tK (spLots CV CG CB P1 P2) E (tCons (tVar 2) (tCons (tVar 6) tNil))) (by rfl) gm kpm lkm hcm hbm sc__law_met rfl (.inl rfl) (met_gives T) TB rfl hmT hu2 (hr.mono (by decide)) (lamS_by (sc := defScope (topS 58)) (by decide +kernel)) rfl (fun _ _ _ _ _ => rfl) (fun A outer s H E f c' hr2 => pe_k c_lots hr2 (passes_call (takes_of rfl rfl rfl rfl) fun _ _ _ _ h => h) (pa_cons (pv 2) (pa_cons (pv 6) pa_nil)))) pa_nil)))
  (pss_cons (ps_expr (pe_bm PySem.F.plainAttrs_list PySem.F.slot_list_append PySem.F.type_list_append mt_append (pv 5) (pa_cons pe_str pa_nil)))
  (pss_cons (ps_dput (hu_of hr) (pv 6) pe_str pe_int rfl)
  (pss_one (ps_ret (pe_k c__law_same hr pass0 (pa_cons (pv 4) (pa_cons (pe_lst (pa_cons (pe_tup (pa_cons pe_str (pa_cons (pe_lst (pa_cons pe_str (pa_cons pe_str pa_nil))) pa_nil))) (pa_cons (pe_tup (pa_cons pe_str (pa_cons (pe_callTy (call_dictP rfl) (by rfl) T.dict bi_dict (pa_cons (pe_lst (pa_cons (pe_tup (pa_cons pe_str (pa_cons pe_int pa_nil))) (pa_cons (pe_tup (pa_cons pe_str (pa_cons pe_int pa_nil))) pa_nil))) pa_nil)) pa_nil))) pa_nil))) pa_nil)))))))))))))), ?_⟩
  refine ⟨_, rfl, a, 2, 7, rfl, ha, by decide, by decide, by decide, fun H1 f1 ns es hs e1 sr1 fo pf ln => ?_⟩
  refine ⟨_, rfl, _, rfl, a, f1, ns, es, hs, rfl, sr1, fo, pf, fun H2 v e2 sr2 vy => ?_⟩
  have e12 := e1.trans e2
  have tb2 : Tabs (tabsT P1 P2) H2 := tabs_lst (L := [a]) tb (fun c hc => by
    obtain ⟨_, _, _, y⟩ := ha
    rw [List.mem_singleton.mp hc]
    exact ⟨_, y⟩) fun b o n h => e12 b o n h
  obtain ⟨fa, n, r, hh, rs, rfl, na1, na2, na3, y⟩ := fo.ext e2 sr1
  have pn1 := pf.n1
  have pn2 := pf.n2
  have pel := pf.el
  have ls0 : ∀ G : Hp, Ls G [] := fun G c hc => by cases hc
  -- odd valleys
  refine ⟨_, rfl, fa, n, r, hh, rs, ns, es, hs, rfl, y, pn1, fun H3 l vs e3 f3 h3 ov => ⟨l, vs, rfl, Sx.sq (.inl h3), fun J Gq g0 gE wk => ?_⟩⟩
  have y3 : FoAt H3 fa n r hh rs ns es hs := ⟨e3.at0 y.t, e3.at0 y.n, e3.at0 y.r, pair_map y.p fun u w z => z.ext0 e3, e3.at0 y.h⟩
  have lrs := y.p.length
  have hodd : ∀ u ∈ vs, (∃ s, Kd H3 u s) ∧ Al 6 H3 u u := fun u hu => by
    obtain ⟨z, p1, p2, p3, rfl, g1, g2, g3⟩ := ov.ex
    simp only [List.mem_cons, List.not_mem_nil, or_false] at hu
    have sAt : ∀ x ∈ ns.map V.str, Al 1 H3 x x := fun x hx => by
      obtain ⟨z, _, rfl⟩ := List.mem_map.mp hx
      exact al_atm (.str z)
    rcases hu with rfl | rfl | rfl | rfl | rfl | rfl | rfl
    · exact ⟨⟨_, .non⟩, al_atm .non⟩
    · exact ⟨⟨_, .int _⟩, al_atm (.int _)⟩
    · exact ⟨⟨_, .str _⟩, al_atm (.str _)⟩
    · exact ⟨⟨_, .bl _⟩, al_atm (.bl _)⟩
    · exact ⟨⟨_, .lst g1⟩, al_to (al_lst (n := 1) g1 (by rw [List.length_map]; omega) sAt) (by decide)⟩
    · refine ⟨⟨_, .tup g2⟩, al_to (al_tup (n := 4) g2 (by show 3 ≤ 5000; decide) fun x hx => ?_) (by decide)⟩
      simp only [List.mem_cons, List.not_mem_nil, or_false] at hx
      rcases hx with rfl | rfl | rfl
      · exact al_to (al_lst (n := 1) y3.n (by rw [List.length_map]; omega) sAt) (by decide)
      · exact al_to (al_lst (n := 2) y3.r (by omega) (al_tes y3.p)) (by decide)
      · refine al_to (al_lst (n := 1) y3.h (by rw [List.length_map]; have := pf.hl; omega) fun x hx => ?_) (by decide)
        obtain ⟨z, _, rfl⟩ := List.mem_map.mp hx
        exact al_atm (.int z)
    · exact ⟨⟨_, .dK g3⟩, ent_dK g3⟩
  have tb3 := tb2.ext fun b o h => e3.at0 h
  refine for_it wk (fun i τ G => ∃ (v3 v4 v5 v6 : Option V), τ = [some (.ref a), some (.ref fa), some v, v3, v4, v5, v6] ∧ EL [] (tabsT P1 P2) H3 G)
    ⟨_, _, _, _, rfl, .ofT (.of tb3 .rfl)⟩ (fun i τ G _ ⟨_, _, _, _, _, e⟩ => gE G fun o ho => by
      rw [h3] at ho
      cases ho
      exact e.at_ (by simp) h3) (fun i u τ Ga Gb lt I yy => ?_) (fun τ Ga I => ?_)
  · obtain ⟨v3, v4, v5, v6, rfl, el⟩ := I
    obtain ⟨rfl, hy⟩ := yy
    obtain ⟨⟨sk, kd⟩, au⟩ := hodd u (List.mem_of_getElem? hy)
    have kdG : ∀ {G : Hp}, EL [] (tabsT P1 P2) H3 G → Kd G u sk := fun e => kd.extN e.toN
    have auG : ∀ {G : Hp}, EL [] (tabsT P1 P2) H3 G → Al 6 G u u := fun e => au.extN e.toN
    refine ⟨el.t, fun X1 n1 t1 => ⟨_, rfl, u, .non, rfl, .inr (.inr ⟨sk, kdG (el.trans ⟨fun b o _ n h => n1 b o h n, t1⟩), met_thing t1 fun X2 p1 x2 g1 => ?_⟩)⟩⟩
    have el2 : EL [] (tabsT P1 P2) H3 X2 := (el.trans ⟨fun b o _ n h => n1 b o h n, t1⟩).trans x2
    refine ⟨by show 1 ≤ sizeLine; decide, fun fd hfd => ?_⟩
    have el3 : EL [] (tabsT P1 P2) H3 (upd X2 fd (.lst [.ref p1])) := el2.trans (.ofT (.of el2.t (ext_new hfd)))
    have hfd3 : (upd X2 fd (.lst [.ref p1])) fd = some (.lst [.ref p1]) := upd_same
    have g13 := (ext_new (L := []) (o := .lst [.ref p1]) hfd).at0 g1
    have ffd : FrN H3 fd := fun o ho => by
      by_cases q : ∃ ps, o = .tbl ps
      · exact q
      · have := el2.n fd o (by simp) (fun ps z => q ⟨ps, z⟩) ho
        rw [hfd] at this
        cases this
    revert el3 hfd3 g13
    generalize upd X2 fd (.lst [.ref p1]) = X3
    intro el3 hfd3 g13
    have stp : ∀ {G X : Hp}, EL [] (tabsT P1 P2) H3 G → ExtN G X → Tabs (tabsT P1 P2) X → EL [] (tabsT P1 P2) H3 X := fun e n t => e.trans ⟨fun b o _ k h => n b o h k, t⟩
    have one : ∀ {G X : Hp}, ExtN G X → Tabs (tabsT P1 P2) X → EL [] (tabsT P1 P2) G X := fun n t => ⟨fun b o _ k h => n b o h k, t⟩
    -- the second
    refine ⟨_, rfl, tyl hfd3, el3.t, fun X4 n4 t4 => ⟨_, rfl, u, .non, rfl, .inr (.inr ⟨sk, kdG (stp el3 n4 t4), met_thing t4 fun X5 p2 x5 g2 => ?_⟩)⟩⟩
    have el35 := (one n4 t4).trans x5
    have hfd5 := el35.at_ (by simp) hfd3
    have g15 := el35.at_ (by simp) g13
    refine ⟨fd, _, _, rfl, rfl, hfd5, by show 1 < sizeLine; decide, ?_⟩
    have el6 := (el3.trans el35).wr (o' := .lst ([.ref p1] ++ [.ref p2])) ffd hfd5
    have hfd6 : (upd X5 fd (.lst ([.ref p1] ++ [.ref p2]))) fd = some (.lst ([.ref p1] ++ [.ref p2])) := upd_same
    have g16 : (upd X5 fd (.lst ([.ref p1] ++ [.ref p2]))) p1 = some (.tup [.str "valley", u]) := by rw [upd_ne (fun z => by rw [z, hfd5] at g15; cases g15)]; exact g15
    have g26 : (upd X5 fd (.lst ([.ref p1] ++ [.ref p2]))) p2 = some (.tup [.str "valley", u]) := by rw [upd_ne (fun z => by rw [z, hfd5] at g2; cases g2)]; exact g2
    revert el6 hfd6 g16 g26
    generalize upd X5 fd (.lst ([.ref p1] ++ [.ref p2])) = X6
    intro el6 hfd6 g16 g26
    -- the third
    refine ⟨_, rfl, tyl hfd6, el6.t, fun X7 n7 t7 => ⟨_, rfl, u, .non, rfl, t7, .inr (.inr ⟨sk, kdG (stp el6 n7 t7), met_thing t7 fun X8 p3 x8 g3 => ?_⟩)⟩⟩
    have el68 := (one n7 t7).trans x8
    have hfd8 := el68.at_ (by simp) hfd6
    have g18 := el68.at_ (by simp) g16
    have g28 := el68.at_ (by simp) g26
    refine ⟨fd, _, _, rfl, rfl, hfd8, by show 2 < sizeLine; decide, ?_⟩
    have el9 := (el6.trans el68).wr (o' := .lst (([.ref p1] ++ [.ref p2]) ++ [.ref p3])) ffd hfd8
    have hfd9 : (upd X8 fd (.lst (([.ref p1] ++ [.ref p2]) ++ [.ref p3]))) fd = some (.lst (([.ref p1] ++ [.ref p2]) ++ [.ref p3])) := upd_same
    have g19 : (upd X8 fd (.lst (([.ref p1] ++ [.ref p2]) ++ [.ref p3]))) p1 = some (.tup [.str "valley", u]) := by rw [upd_ne (fun z => by rw [z, hfd8] at g18; cases g18)]; exact g18
    have g29 : (upd X8 fd (.lst (([.ref p1] ++ [.ref p2]) ++ [.ref p3]))) p2 = some (.tup [.str "valley", u]) := by rw [upd_ne (fun z => by rw [z, hfd8] at g28; cases g28)]; exact g28
    have g39 : (upd X8 fd (.lst (([.ref p1] ++ [.ref p2]) ++ [.ref p3]))) p3 = some (.tup [.str "valley", u]) := by rw [upd_ne (fun z => by rw [z, hfd8] at g3; cases g3)]; exact g3
    revert el9 hfd9 g19 g29 g39
    generalize upd X8 fd (.lst (([.ref p1] ++ [.ref p2]) ++ [.ref p3])) = X9
    intro el9 hfd9 g19 g29 g39
    -- as it should be
    refine ⟨_, rfl, _, rfl, by show 2 ≤ sizeLine; decide, fun t ht => ?_⟩
    have eT : Ext [] X9 (upd X9 t (.tup [.str "valley", u])) := ext_new ht
    have gT : (upd X9 t (.tup [.str "valley", u])) t = some (.tup [.str "valley", u]) := upd_same
    revert eT gT
    generalize upd X9 t (.tup [.str "valley", u]) = X10
    intro eT gT
    refine ⟨by show 1 ≤ sizeLine; decide, fun l1 hl1 => ⟨l1, 3, _, rfl, rfl, upd_same, by decide, by decide, by show 1 * 3 ≤ sizeLine; decide, fun l2 hl2 => ?_⟩⟩
    have e11 : Ext [] X10 (upd X10 l1 (.lst [.ref t])) := ext_new hl1
    have e12' : Ext [] X10 (upd (upd X10 l1 (.lst [.ref t])) l2 (.lst (List.replicate (3 : Int).toNat [V.ref t]).flatten)) := e11.new hl2
    have hl22 : (upd (upd X10 l1 (.lst [.ref t])) l2 (.lst (List.replicate (3 : Int).toNat [V.ref t]).flatten)) l2 = some (.lst [.ref t, .ref t, .ref t]) := upd_same
    revert e12' hl22
    generalize upd (upd X10 l1 (.lst [.ref t])) l2 (.lst (List.replicate (3 : Int).toNat [V.ref t]).flatten) = X11
    intro e12' hl22
    have eA := eT.trans e12'
    have el11 : EL [] (tabsT P1 P2) H3 X11 := el9.trans (.ofT (.of el9.t eA))
    have pairT : ∀ {p}, X11 p = some (.tup [.str "valley", u]) → Al 7 X11 (.ref p) (.ref t) := fun h => al_seq (n := 6) ⟨_, t, _, _, rfl, rfl, .inr ⟨h, e12'.at0 gT⟩, by show 2 ≤ 5000; decide, .cons (al_atm (.str _)) (.cons (auG el11) .nil)⟩
    refine ⟨.ref fd, .ref l2, rfl, al_seq (n := 7) ⟨fd, l2, _, _, rfl, rfl, .inl ⟨eA.at0 hfd9, hl22⟩, by show 3 ≤ 5000; decide, .cons (pairT (eA.at0 g19)) (.cons (pairT (eA.at0 g29)) (.cons (pairT (eA.at0 g39)) .nil))⟩, fun X12 e13 => ⟨_, rfl, ?_⟩⟩
    exact ⟨_, _, _, _, rfl, el11.trans (.ofT (.of el11.t e13))⟩
  · obtain ⟨v3, v4, v5, v6, rfl, el⟩ := I
    have elR : ∀ {A B : Hp}, Ext [] A B → Tabs (tabsT P1 P2) A → EL [] (tabsT P1 P2) A B := fun e t => .ofT (.of t e)
    have yG := el.fo (ls0 H3) (by simp) (by simp) (by simp) y3
    have vyG := el.vy (ls0 H3) ((elR e3 tb2).vy (ls0 H2) vy)
    have srG : Src Ga a := by
      obtain ⟨x1, x2, x3, y⟩ := sr2
      exact ⟨x1, x2, x3, el.at_ (by simp) (e3.at0 y)⟩
    refine ⟨_, rfl, fa, n, r, hh, rs, ns, es, hs, rfl, yG, pf, by omega, fun H4 l4 ws e4 f4 h4 l100 ov4 => ⟨l4, ws, rfl, Sx.sq (.inl h4), fun J2 Gq2 g02 gE2 wk2 => ?_⟩⟩
    have el4 := elR e4 el.t
    have vy4 := el4.vy (ls0 Ga) vyG
    have stp4 : ∀ {G X : Hp}, EL [] (tabsT P1 P2) H4 G → ExtN G X → Tabs (tabsT P1 P2) X → EL [] (tabsT P1 P2) H4 X := fun e n t => e.trans ⟨fun b o _ k h => n b o h k, t⟩
    have one : ∀ {G X : Hp}, ExtN G X → Tabs (tabsT P1 P2) X → EL [] (tabsT P1 P2) G X := fun n t => ⟨fun b o _ k h => n b o h k, t⟩
    refine for_it wk2 (fun i τ G => ∃ (v3 v4 v5 v6 : Option V), τ = [some (.ref a), some (.ref fa), some v, v3, v4, v5, v6] ∧ EL [] (tabsT P1 P2) H4 G)
      ⟨_, _, _, _, rfl, .ofT (.of el4.t .rfl)⟩ (fun i τ G _ ⟨_, _, _, _, _, e⟩ => gE2 G fun o ho => by
        rw [h4] at ho
        cases ho
        exact e.at_ (by simp) h4) (fun i u τ Ga Gb lt I yy => ?_) (fun τ Gc I => ?_)
    · obtain ⟨v3, v4, v5, v6, rfl, el⟩ := I
      obtain ⟨rfl, hy⟩ := yy
      obtain ⟨ko, au⟩ := ov4 u (List.mem_of_getElem? hy)
      have koG : ∀ {G : Hp}, EL [] (tabsT P1 P2) H4 G → KnOdd G ns es u := fun e => ko.extN e.toN
      have auG : ∀ {G : Hp}, EL [] (tabsT P1 P2) H4 G → Al 6 G u u := fun e => au.extN e.toN
      have vyX : ∀ {G : Hp}, EL [] (tabsT P1 P2) H4 G → Vy CV G v ns es := fun e => e.vy (ls0 H4) vy4
      refine ⟨el.t, fun X1 n1 t1 => ⟨_, rfl, _, rfl, v, u, rfl, .inr (.inl ⟨ns, es, hs, vyX (stp4 el n1 t1), pf, koG (stp4 el n1 t1), met_begun t1 fun X2 p1 x2 g1 => ?_⟩)⟩⟩
      have el2 := (stp4 el n1 t1).trans x2
      refine ⟨by show 1 ≤ sizeLine; decide, fun fd hfd => ?_⟩
      have el3 : EL [] (tabsT P1 P2) H4 (upd X2 fd (.lst [.ref p1])) := el2.trans (.ofT (.of el2.t (ext_new hfd)))
      have hfd3 : (upd X2 fd (.lst [.ref p1])) fd = some (.lst [.ref p1]) := upd_same
      have g13 := (ext_new (L := []) (o := .lst [.ref p1]) hfd).at0 g1
      have ffd : FrN H4 fd := fun o ho => by
        by_cases q : ∃ ps, o = .tbl ps
        · exact q
        · have := el2.n fd o (by simp) (fun ps z => q ⟨ps, z⟩) ho
          rw [hfd] at this
          cases this
      revert el3 hfd3 g13
      generalize upd X2 fd (.lst [.ref p1]) = X3
      intro el3 hfd3 g13
      refine ⟨_, rfl, tyl hfd3, el3.t, fun X4 n4 t4 => ⟨_, rfl, _, rfl, v, u, rfl, t4, .inr (.inl ⟨ns, es, hs, vyX (stp4 el3 n4 t4), pf, koG (stp4 el3 n4 t4), met_begun t4 fun X5 p2 x5 g2 => ?_⟩)⟩⟩
      have el35 := (one n4 t4).trans x5
      have hfd5 := el35.at_ (by simp) hfd3
      have g15 := el35.at_ (by simp) g13
      refine ⟨fd, _, _, rfl, rfl, hfd5, by show 1 < sizeLine; decide, ?_⟩
      have el6 := (el3.trans el35).wr (o' := .lst ([.ref p1] ++ [.ref p2])) ffd hfd5
      have hfd6 : (upd X5 fd (.lst ([.ref p1] ++ [.ref p2]))) fd = some (.lst ([.ref p1] ++ [.ref p2])) := upd_same
      have g16 : (upd X5 fd (.lst ([.ref p1] ++ [.ref p2]))) p1 = some (.tup [.str "begun", u]) := by rw [upd_ne (fun z => by rw [z, hfd5] at g15; cases g15)]; exact g15
      have g26 : (upd X5 fd (.lst ([.ref p1] ++ [.ref p2]))) p2 = some (.tup [.str "begun", u]) := by rw [upd_ne (fun z => by rw [z, hfd5] at g2; cases g2)]; exact g2
      revert el6 hfd6 g16 g26
      generalize upd X5 fd (.lst ([.ref p1] ++ [.ref p2])) = X9
      intro el9 hfd9 g19 g29
      refine ⟨_, rfl, _, rfl, by show 2 ≤ sizeLine; decide, fun t ht => ?_⟩
      have eT : Ext [] X9 (upd X9 t (.tup [.str "begun", u])) := ext_new ht
      have gT : (upd X9 t (.tup [.str "begun", u])) t = some (.tup [.str "begun", u]) := upd_same
      revert eT gT
      generalize upd X9 t (.tup [.str "begun", u]) = X10
      intro eT gT
      refine ⟨by show 1 ≤ sizeLine; decide, fun l1 hl1 => ⟨l1, 2, _, rfl, rfl, upd_same, by decide, by decide, by show 1 * 2 ≤ sizeLine; decide, fun l2 hl2 => ?_⟩⟩
      have e11 : Ext [] X10 (upd X10 l1 (.lst [.ref t])) := ext_new hl1
      have e12' : Ext [] X10 (upd (upd X10 l1 (.lst [.ref t])) l2 (.lst (List.replicate (2 : Int).toNat [V.ref t]).flatten)) := e11.new hl2
      have hl22 : (upd (upd X10 l1 (.lst [.ref t])) l2 (.lst (List.replicate (2 : Int).toNat [V.ref t]).flatten)) l2 = some (.lst [.ref t, .ref t]) := upd_same
      revert e12' hl22
      generalize upd (upd X10 l1 (.lst [.ref t])) l2 (.lst (List.replicate (2 : Int).toNat [V.ref t]).flatten) = X11
      intro e12' hl22
      have eA := eT.trans e12'
      have el11 : EL [] (tabsT P1 P2) H4 X11 := el9.trans (.ofT (.of el9.t eA))
      have pairT : ∀ {p}, X11 p = some (.tup [.str "begun", u]) → Al 7 X11 (.ref p) (.ref t) := fun h => al_seq (n := 6) ⟨_, t, _, _, rfl, rfl, .inr ⟨h, e12'.at0 gT⟩, by show 2 ≤ 5000; decide, .cons (al_atm (.str _)) (.cons (auG el11) .nil)⟩
      refine ⟨.ref fd, .ref l2, rfl, al_seq (n := 7) ⟨fd, l2, _, _, rfl, rfl, .inl ⟨eA.at0 hfd9, hl22⟩, by show 2 ≤ 5000; decide, .cons (pairT (eA.at0 g19)) (.cons (pairT (eA.at0 g29)) .nil)⟩, fun X12 e13 => ⟨_, rfl, ?_⟩⟩
      have el13 : EL [] (tabsT P1 P2) H4 X12 := el11.trans (.ofT (.of el11.t e13))
      refine ⟨_, rfl, _, rfl, v, u, rfl, .inr (.inl ⟨ns, es, hs, vyX el13, pf, koG el13, fun X13 e14 => ⟨false, false, rfl, rfl, _, rfl, itN (by simp) ?_⟩⟩)⟩
      exact ⟨_, _, _, _, rfl, el13.trans (.ofT (.of el13.t e14))⟩
    · obtain ⟨v3, v4, v5, v6, rfl, el5⟩ := I
      have vy5 := el5.vy (ls0 H4) vy4
      have tb5 := el5.t
      refine ⟨by show 1 ≤ sizeLine; decide, fun fi hfi => fun la hla => ⟨upd_same, [(.inr "nobody", .int 1)], rfl, by decide, by show 2 ≤ sizeLine; decide, fun tp htp => ⟨tp, _, rfl, .inl (.inl upd_same), rfl, _, _, rfl, _, _, rfl, rfl, ?_⟩⟩⟩
      have mk1 : (mergeK [] [((.inr "nobody" : Key), V.int 1)]) = [((.inr "nobody" : Key), V.int 1)] := rfl
      rw [mk1] at htp ⊢
      have e1 : Ext [] Gc (upd Gc fi (.lst [.str "x"])) := ext_new hfi
      have nla : la ≠ fi := fun z => by
        rw [z, upd_same] at hla
        cases hla
      have fla : Gc la = none := e1.free0 hla
      have e2x : Ext [] Gc (upd (upd (upd Gc fi (.lst [.str "x"])) la (.dK [])) la (.dK [((.inr "nobody" : Key), V.int 1)])) := e1.trans ((ext_new hla).put hla)
      have z1 : (upd (upd (upd Gc fi (.lst [.str "x"])) la (.dK [])) la (.dK [((.inr "nobody" : Key), V.int 1)])) fi = some (.lst [.str "x"]) := by
        rw [upd_ne (Ne.symm nla), upd_ne (Ne.symm nla)]
        exact upd_same
      have z2 : (upd (upd (upd Gc fi (.lst [.str "x"])) la (.dK [])) la (.dK [((.inr "nobody" : Key), V.int 1)])) la = some (.dK [((.inr "nobody" : Key), V.int 1)]) := upd_same
      revert htp e2x z1 z2
      generalize upd (upd (upd Gc fi (.lst [.str "x"])) la (.dK [])) la (.dK [((.inr "nobody" : Key), V.int 1)]) = A2
      intro htp e2x z1 z2
      have e3x := e2x.trans (ext_new (L := []) (o := .tup [.ref fi, .ref la]) htp)
      have w1 := (ext_new (L := []) (o := .tup [.ref fi, .ref la]) htp).at0 z1
      have w2 := (ext_new (L := []) (o := .tup [.ref fi, .ref la]) htp).at0 z2
      revert e3x w1 w2
      generalize upd A2 tp (.tup [.ref fi, .ref la]) = X0
      intro e3x w1 w2
      have el0 : EL [] (tabsT P1 P2) Gc X0 := elR e3x tb5
      have stp5 : ∀ {G X : Hp}, EL [] (tabsT P1 P2) Gc G → ExtN G X → Tabs (tabsT P1 P2) X → EL [] (tabsT P1 P2) Gc X := fun e n t => e.trans (one n t)
      have vyX : ∀ {G : Hp}, EL [] (tabsT P1 P2) Gc G → Vy CV G v ns es := fun e => e.vy (ls0 Gc) vy5
      refine ⟨el0.t, fun X1 n1 t1 => ⟨_, rfl, _, rfl, v, .ref fi, rfl, .inr (.inl ⟨ns, es, hs, vyX (stp5 el0 n1 t1), pf, .inr ⟨fi, [.str "x"], [none], rfl, .inl ((one n1 t1).at_ (by simp) w1), by show 1 ≤ 500; decide, .cons (.kind (.str _) (by decide)) .nil, .inl (by simp)⟩, met_begun t1 fun X2 p1 x2 g1 => ?_⟩)⟩⟩
      have el02 := (one n1 t1).trans x2
      have a1 := el02.at_ (by simp) w1
      have a2 := el02.at_ (by simp) w2
      have el2 := el0.trans el02
      refine ⟨by show 1 ≤ sizeLine; decide, fun fd hfd => ?_⟩
      have el3 : EL [] (tabsT P1 P2) Gc (upd X2 fd (.lst [.ref p1])) := el2.trans (.ofT (.of el2.t (ext_new hfd)))
      have hfd3 : (upd X2 fd (.lst [.ref p1])) fd = some (.lst [.ref p1]) := upd_same
      have eN : Ext [] X2 (upd X2 fd (.lst [.ref p1])) := ext_new hfd
      have g13 := eN.at0 g1
      have b1 := eN.at0 a1
      have b2 := eN.at0 a2
      have nfi : fi ≠ fd := fun z => by rw [z, hfd] at a1; cases a1
      have frn : ∀ {p : Addr}, X2 p = none → FrN Gc p := fun {p} hp o ho => by
        by_cases q : ∃ ps, o = .tbl ps
        · exact q
        · have := el2.n p o (by simp) (fun ps z => q ⟨ps, z⟩) ho
          rw [hp] at this
          cases this
      have ffd := frn hfd
      revert el3 hfd3 g13 b1 b2
      generalize upd X2 fd (.lst [.ref p1]) = X3
      intro el3 hfd3 g13 b1 b2
      refine ⟨_, rfl, tyl hfd3, el3.t, fun X4 n4 t4 => ⟨_, rfl, _, rfl, v, .ref la, rfl, t4, .inr (.inl ⟨ns, es, hs, vyX (stp5 el3 n4 t4), pf, .inl ⟨_, .dK ((one n4 t4).at_ (by simp) b2), by decide⟩, met_begun t4 fun X5 p2 x5 g2 => ?_⟩)⟩⟩
      have el35 := (one n4 t4).trans x5
      have hfd5 := el35.at_ (by simp) hfd3
      have g15 := el35.at_ (by simp) g13
      have c1 := el35.at_ (by simp) b1
      have c2 := el35.at_ (by simp) b2
      refine ⟨fd, _, _, rfl, rfl, hfd5, by show 1 < sizeLine; decide, ?_⟩
      have el6 := (el3.trans el35).wr (o' := .lst ([.ref p1] ++ [.ref p2])) ffd hfd5
      have hfd6 : (upd X5 fd (.lst ([.ref p1] ++ [.ref p2]))) fd = some (.lst ([.ref p1] ++ [.ref p2])) := upd_same
      have k6 : ∀ {p o}, p ≠ fd → X5 p = some o → (upd X5 fd (.lst ([.ref p1] ++ [.ref p2]))) p = some o := fun n h => by rw [upd_ne n]; exact h
      have g16 := k6 (fun z => by rw [z, hfd5] at g15; cases g15) g15
      have g26 := k6 (fun z => by rw [z, hfd5] at g2; cases g2) g2
      have d1 := k6 nfi c1
      have d2 := k6 (fun z => by rw [z, hfd5] at c2; cases c2) c2
      revert el6 hfd6 g16 g26 d1 d2
      clear k6
      generalize upd X5 fd (.lst ([.ref p1] ++ [.ref p2])) = X6
      intro el6 hfd6 g16 g26 d1 d2
      -- what was handed is written
      refine ⟨_, rfl, tyl d1, fi, _, _, rfl, rfl, d1, by show 1 < sizeLine; decide, ?_⟩
      have el7 := el6.wr (o' := .lst ([.str "x"] ++ [.str "late"])) (FrN.none hfi) d1
      have k7 : ∀ {p o}, p ≠ fi → X6 p = some o → (upd X6 fi (.lst ([.str "x"] ++ [.str "late"]))) p = some o := fun n h => by rw [upd_ne n]; exact h
      have hfd7 := k7 (Ne.symm nfi) hfd6
      have g17 := k7 (fun z => by rw [z, d1] at g16; cases g16) g16
      have g27 := k7 (fun z => by rw [z, d1] at g26; cases g26) g26
      have f2 := k7 nla d2
      have f1 : (upd X6 fi (.lst ([.str "x"] ++ [.str "late"]))) fi = some (.lst ([.str "x"] ++ [.str "late"])) := upd_same
      revert el7 hfd7 g17 g27 f1 f2
      clear k7
      generalize upd X6 fi (.lst ([.str "x"] ++ [.str "late"])) = X7
      intro el7 hfd7 g17 g27 f2 f1
      refine ⟨_, rfl, la, _, rfl, DPut.k (k := .inr "late") f2 (by show 1 < sizeLine; decide), ?_⟩
      have el8 := el7.wr (o' := .dK (putK [((.inr "nobody" : Key), V.int 1)] (.inr "late") (.int 2))) (FrN.none fla) f2
      have k8 : ∀ {p o}, p ≠ la → X7 p = some o → (upd X7 la (.dK (putK [((.inr "nobody" : Key), V.int 1)] (.inr "late") (.int 2)))) p = some o := fun n h => by rw [upd_ne n]; exact h
      have hfd8 := k8 (fun z => by rw [z, f2] at hfd7; cases hfd7) hfd7
      have g18 := k8 (fun z => by rw [z, f2] at g17; cases g17) g17
      have g28 := k8 (fun z => by rw [z, f2] at g27; cases g27) g27
      have i1 := k8 (Ne.symm nla) f1
      have i2 : (upd X7 la (.dK (putK [((.inr "nobody" : Key), V.int 1)] (.inr "late") (.int 2)))) la = some (.dK [((.inr "nobody" : Key), V.int 1), (.inr "late", .int 2)]) := upd_same
      revert el8 hfd8 g18 g28 i1 i2
      clear k8
      generalize upd X7 la (.dK (putK [((.inr "nobody" : Key), V.int 1)] (.inr "late") (.int 2))) = X8
      intro el8 hfd8 g18 g28 i1 i2
      have tX : Ext [] X8 X8 := .rfl
      refine ⟨_, rfl, by show 2 ≤ sizeLine; decide, fun l2 hl2 => ?_⟩
      have x1 : Ext [] X8 (upd X8 l2 (.lst [.str "x", .str "late"])) := ext_new hl2
      have m1 : (upd X8 l2 (.lst [.str "x", .str "late"])) l2 = some (.lst [.str "x", .str "late"]) := upd_same
      revert x1 m1
      generalize upd X8 l2 (.lst [.str "x", .str "late"]) = Y1
      intro x1 m1
      refine ⟨by show 2 ≤ sizeLine; decide, fun t1 ht1 => ?_⟩
      have x2 : Ext [] Y1 (upd Y1 t1 (.tup [.str "begun", .ref l2])) := ext_new ht1
      have m2 : (upd Y1 t1 (.tup [.str "begun", .ref l2])) t1 = some (.tup [.str "begun", .ref l2]) := upd_same
      revert x2 m2
      generalize upd Y1 t1 (.tup [.str "begun", .ref l2]) = Y2
      intro x2 m2
      refine ⟨by show 2 ≤ sizeLine; decide, fun u1 hu1 => ?_⟩
      have x3 : Ext [] Y2 (upd Y2 u1 (.tup [.str "nobody", .int 1])) := ext_new hu1
      have m3 : (upd Y2 u1 (.tup [.str "nobody", .int 1])) u1 = some (.tup [.str "nobody", .int 1]) := upd_same
      revert x3 m3
      generalize upd Y2 u1 (.tup [.str "nobody", .int 1]) = Y3
      intro x3 m3
      refine ⟨by show 2 ≤ sizeLine; decide, fun u2 hu2 => ?_⟩
      have x4 : Ext [] Y3 (upd Y3 u2 (.tup [.str "late", .int 2])) := ext_new hu2
      have m4 : (upd Y3 u2 (.tup [.str "late", .int 2])) u2 = some (.tup [.str "late", .int 2]) := upd_same
      revert x4 m4
      generalize upd Y3 u2 (.tup [.str "late", .int 2]) = Y4
      intro x4 m4
      refine ⟨by show 2 ≤ sizeLine; decide, fun ul hul => ?_⟩
      have x5 : Ext [] Y4 (upd Y4 ul (.lst [.ref u1, .ref u2])) := ext_new hul
      have m5 : (upd Y4 ul (.lst [.ref u1, .ref u2])) ul = some (.lst [.ref u1, .ref u2]) := upd_same
      revert x5 m5
      generalize upd Y4 ul (.lst [.ref u1, .ref u2]) = Y5
      intro x5 m5
      refine ⟨ul, [u1, u2], [((.inr "nobody" : Key), V.int 1), (.inr "late", .int 2)], rfl, .inl (.inl m5), .cons (.inl (.inl (x5.at0 (x4.at0 m3)))) (.cons (.inl (.inl (x5.at0 m4))) .nil), fun d2 hd2 => ?_⟩
      have x6 : Ext [] Y5 (upd Y5 d2 (.dK (mergeK [] [((.inr "nobody" : Key), V.int 1), (.inr "late", .int 2)]))) := ext_new hd2
      have m6 : (upd Y5 d2 (.dK (mergeK [] [((.inr "nobody" : Key), V.int 1), (.inr "late", .int 2)]))) d2 = some (.dK [((.inr "nobody" : Key), V.int 1), (.inr "late", .int 2)]) := upd_same
      revert x6 m6
      generalize upd Y5 d2 (.dK (mergeK [] [((.inr "nobody" : Key), V.int 1), (.inr "late", .int 2)])) = Y6
      intro x6 m6
      refine ⟨by show 2 ≤ sizeLine; decide, fun t2 ht2 => ?_⟩
      have x7 : Ext [] Y6 (upd Y6 t2 (.tup [.str "begun", .ref d2])) := ext_new ht2
      have m7 : (upd Y6 t2 (.tup [.str "begun", .ref d2])) t2 = some (.tup [.str "begun", .ref d2]) := upd_same
      revert x7 m7
      generalize upd Y6 t2 (.tup [.str "begun", .ref d2]) = Y7
      intro x7 m7
      refine ⟨by show 2 ≤ sizeLine; decide, fun dl hdl => ?_⟩
      have x8 : Ext [] Y7 (upd Y7 dl (.lst [.ref t1, .ref t2])) := ext_new hdl
      have m8 : (upd Y7 dl (.lst [.ref t1, .ref t2])) dl = some (.lst [.ref t1, .ref t2]) := upd_same
      revert x8 m8
      generalize upd Y7 dl (.lst [.ref t1, .ref t2]) = Y8
      intro x8 m8
      have e28 : Ext [] Y2 Y8 := x3.trans (x4.trans (x5.trans (x6.trans (x7.trans x8))))
      have e18 : Ext [] Y1 Y8 := x2.trans e28
      have e08 : Ext [] X8 Y8 := x1.trans e18
      have alF : Al 6 Y8 (.ref fi) (.ref l2) := al_to (al_seq (n := 1) ⟨fi, l2, _, _, rfl, rfl, .inl ⟨e08.at0 i1, e18.at0 m1⟩, by show 2 ≤ 5000; decide, .cons (al_atm (.str _)) (.cons (al_atm (.str _)) .nil)⟩) (by decide)
      have alD : Al 6 Y8 (.ref la) (.ref d2) := al_to (al_dK (by show 2 ≤ 5000; decide) (fun kv hk => by
        simp only [List.mem_cons, List.not_mem_nil, or_false] at hk
        rcases hk with rfl | rfl
        · exact ⟨.str _, .int _⟩
        · exact ⟨.str _, .int _⟩) (e08.at0 i2) (x8.at0 (x7.at0 m6))) (by decide)
      refine ⟨.ref fd, .ref dl, rfl, al_seq (n := 7) ⟨fd, dl, _, _, rfl, rfl, .inl ⟨e08.at0 hfd8, m8⟩, by show 2 ≤ 5000; decide, .cons (al_seq (n := 6) ⟨p1, t1, _, _, rfl, rfl, .inr ⟨e08.at0 g18, e28.at0 m2⟩, by show 2 ≤ 5000; decide, .cons (al_atm (.str _)) (.cons alF .nil)⟩)
        (.cons (al_seq (n := 6) ⟨p2, t2, _, _, rfl, rfl, .inr ⟨e08.at0 g28, x8.at0 m7⟩, by show 2 ≤ 5000; decide, .cons (al_atm (.str _)) (.cons alD .nil)⟩) .nil)⟩, fun X9 e9 => ?_⟩
      have el9 : EL [] (tabsT P1 P2) Gc X9 := el8.trans (.ofT (.of el8.t (e08.trans e9)))
      have lsA : Ls H [a] := fun c hc => by
        obtain ⟨_, _, _, y⟩ := ha
        rw [List.mem_singleton.mp hc]
        exact ⟨_, y⟩
      have all : EL [] (tabsT P1 P2) H2 X9 := (elR e3 tb2).trans (el.trans (el4.trans (el5.trans el9)))
      refine q X9 ((EL.ofExt tb lsA e12).trans (all.wide fun c hc => by cases hc)) ?_
      obtain ⟨y1, y2, y3, y⟩ := sr2
      exact ⟨y1, y2, y3, all.at_ (by simp) y⟩
end
end K70

/-! K7V: the law. -/
namespace K70
open PySem PySem.Spec PyProof.Rows L2 LamX
section
variable {P : Program} {w : World} {K : PySem.W.Frag} {mg : Str → Option Value} {base : Heap} {CV CG CB : Addr}
theorem sql_el {T : List (Addr × PySem.Str)} {H H1 H2 : Hp} {a p : Addr} {xs : List V} (h : SqL K H a xs) (hp : H p = none) (e1 : Ext [] H H1) (e2 : EL [p] T H1 H2) : SqL K H2 a xs := by
  have ne : ∀ {o : HO}, H a = some o → a ∉ [p] := fun h m => by
    rw [List.mem_singleton.mp m, hp] at h
    cases h
  rcases h with (h | ⟨o, h⟩) | h
  · exact .inl (.inl (e2.at_ (ne h) (e1.at0 h)))
  · exact .inl (.inr ⟨o, e2.at_ (ne h) (e1.at0 h)⟩)
  · exact .inr h
def spLaw (K : PySem.W.Frag) (P1 P2 : Addr) : Sp := fun vs H Q _ => ∃ (a : Addr) (ns : List Int), vs = [.ref a] ∧ SqL K H a (ns.map .int) ∧ Tabs (tabsT P1 P2) H ∧ ∀ H', Q (.bl true) H'
abbrev N_law : List PySem.Str := ["_law_script", "_law_turn", "_law_source_here"]
theorem sc_law : FnScope N_law ["_law_script"] (defScope (topS 59)) := ⟨rfl, rfl, rfl, by decide +kernel, rfl, by decide +kernel, by decide +kernel⟩
theorem bb_law : BindsBy "law" (topS 59) ["_law_script"] := fun _ _ _ _ _ _ us hl => match us, hl with | [_], _ => rfl
theorem ok_law (T : Tx P K mg CV CG CB) {P1 P2 : Addr} (D : Df K mg "law" (topS 59)) (c__law_source : Cl P w K mg base CX0 2 "_law_source" (spSource K)) (c__law_draw : Cl P w K mg base CX0 1 "_law_draw" spDraw) (c__law_f_form : Cl P w K mg base CX0 4 "_law_f_form" spForm)
    (c__law_f_small : Cl P w K mg base CX0 5 "_law_f_small" spSmall) (c__law_turns_right : ClG P w K mg base CX0 7 "_law_turns_right" (spTurns P1 P2)) (c__law_refused_right : Cl P w K mg base CX0 10 "_law_refused_right" (spRefused P1 P2)) : ClG P w K mg base CX0 11 "law" (spLaw K P1 P2) := by
  refine D.clG sc_law bb_law (fun vs H Q E ⟨_, _, e, _⟩ => by rw [e]; rfl) fun f cdv A outer s H vs Q E hgd hr h => ?_
  have nd := sc_law.nd
  obtain ⟨a, ns, rfl, ha, tb, q⟩ := h
  refine ⟨_, (pss_cons (ps_for PassesOwn.never rfl (pi_range1 (by rfl) T.range (pa_cons pe_int pa_nil)) (pg_name (i := 1) nd rfl (.inl rfl))
    (pss_cons (ps_set (i := 2) nd rfl (.inl rfl) (pe_k c__law_source hr pass0 (pa_cons (pv 0) (pa_cons (pv 1) pa_nil))))
  (pss_one (ps_if ((pw_or (pt_not (pt_val (pe_kG c__law_turns_right hgd hr pass0 (pa_cons (pv 2) (pa_cons (pe_k c__law_f_small hr pass0 (pa_cons (pv 2) (pa_cons pe_int (pa_cons pe_int pa_nil)))) pa_nil))))) (pw_or1 (pt_not (pt_val (pe_k c__law_refused_right hr pass0 (pa_cons (pv 2) pa_nil))))))).pt (pss_one (ps_ret pe_bl)) pss_nil))))
  (pss_cons (ps_set (i := 2) nd rfl (.inl rfl) (pe_k c__law_source hr pass0 (pa_cons (pv 0) (pa_cons pe_int pa_nil))))
  (pss_one (ps_ret (pe_kG c__law_turns_right hgd hr pass0 (pa_cons (pv 2) (pa_cons (pe_k c__law_f_form hr pass0 (pa_cons (pv 2) (pa_cons pe_int (pa_cons (pe_k c__law_draw hr pass0 (pa_cons (pv 2) (pa_cons pe_int pa_nil))) pa_nil)))) pa_nil))))))), ?_⟩
  refine ⟨_, rfl, by decide, by decide, ?_⟩
  refine for_range (fun i τ G => ∃ (v1 v2 : Option V), τ = [some (.ref a), v1, v2] ∧ Tabs (tabsT P1 P2) G ∧ SqL K G a (ns.map .int)) ⟨_, _, rfl, tb, ha⟩ (fun i τ G lt I => ?_) fun τ G I => ?_
  · obtain ⟨v1, v2, rfl, tb, ha⟩ := I
    refine ⟨_, rfl, _, rfl, a, i, ns, by rw [Int.zero_add], ha, fun p H1 hp e1 sr1 => ?_⟩
    have tb1 : Tabs (tabsT P1 P2) H1 := tb.ext fun b o h => e1.at0 h
    refine ⟨_, rfl, _, rfl, p, 1, 10, rfl, sr1, by decide, by decide, by decide, fun H2 f2 ns2 es hs e2 sr2 fo pf ln => ?_⟩
    have ls1 : Ls H1 [p] := fun c hc => by
      obtain ⟨_, _, _, y⟩ := sr1
      rw [List.mem_singleton.mp hc]
      exact ⟨_, y⟩
    have el2 : EL [p] (tabsT P1 P2) H1 H2 := .ofExt tb1 ls1 e2
    refine ⟨p, f2, ns2, es, hs, rfl, sr2, fo, pf, el2.t, fun H3 el3 sr3 => ?_⟩
    refine ⟨true, rfl, _, rfl, p, rfl, sr3, el3.t, fun H4 el4 sr4 => ⟨true, rfl, ?_⟩⟩
    exact ⟨_, _, rfl, el4.t, sql_el ha hp e1 (el2.trans (el3.trans el4))⟩
  · obtain ⟨v1, v2, rfl, tb, ha⟩ := I
    refine ⟨_, rfl, a, 5, ns, rfl, ha, fun p H1 hp e1 sr1 => ?_⟩
    have tb1 : Tabs (tabsT P1 P2) H1 := tb.ext fun b o h => e1.at0 h
    refine ⟨_, rfl, _, rfl, _, rfl, p, 4, rfl, sr1, by decide, by decide, fun H2 d e2 sr2 d0 d1 => ?_⟩
    obtain ⟨j, rfl⟩ := Int.eq_ofNat_of_zero_le d0
    refine ⟨p, 60, j, rfl, sr2, by decide, by decide, by omega, fun H3 f2 ns2 es hs e3 sr3 fo pf ln => ?_⟩
    have ls1 : Ls H1 [p] := fun c hc => by
      obtain ⟨_, _, _, y⟩ := sr1
      rw [List.mem_singleton.mp hc]
      exact ⟨_, y⟩
    have el3 : EL [p] (tabsT P1 P2) H1 H3 := .ofExt tb1 ls1 (e2.trans e3)
    exact ⟨p, f2, ns2, es, hs, rfl, sr3, fo, pf, el3.t, fun H4 el4 sr4 => q H4⟩
end
end K70

/-! K80: what is read of the heap that the top leaves. -/
namespace K70
open PySem PySem.Spec PyProof.Rows L2 LamX
def mkD (x : Str) (i : Nat) : He.DefD := ⟨(x, none), x, x, defArgs (topS i), defBody (topS i), defScope (topS i), [], []⟩
def hFn : List He.DefD := [mkD "is_list" 4, mkD "is_whole" 5, mkD "is_positive" 6, mkD "is_name" 7, mkD "is_among" 8,
  mkD "checked_houses" 18, mkD "checked_roads" 19, mkD "checked_heads" 20, mkD "check_valley" 21, mkD "road_in" 22, mkD "lots_behind" 24, mkD "feasts_by" 25,
  mkD "known_begun" 29, mkD "is_begun" 30, mkD "checked_begun" 31, mkD "begun_parts" 32, mkD "feasts_so_far" 33, mkD "lots_by" 34, mkD "lots" 35,
  mkD "_law_cell" 37, mkD "_law_source" 38, mkD "_law_draw" 39, mkD "_law_pick" 40, mkD "_law_mixed" 41, mkD "_law_same" 42, mkD "_law_loose" 43, mkD "_law_f_names" 44, mkD "_law_f_form" 45, mkD "_law_f_small" 46,
  mkD "_law_f_valley" 47, mkD "_law_f_handed" 48, mkD "_law_f_odd_valleys" 49, mkD "_law_f_begun" 50, mkD "_law_f_lots" 51, mkD "_law_f_begun_parts" 52, mkD "_law_f_so_far" 53, mkD "_law_f_odd_begun" 54, mkD "_law_f_put" 55,
  mkD "_law_met" 56, mkD "_law_turns_right" 57, mkD "_law_refused_right" 58, mkD "law" 59,
  ⟨("Valley", some "__init__"), "__init__", "Valley.__init__", defArgs (inClass (topS 17) 0), defBody (inClass (topS 17) 0), defScope (inClass (topS 17) 0), [], []⟩]
def hFree : List Str := ["isinstance", "len", "all", "sum", "abs", "max", "repr", "range", "enumerate", "zip", "sorted", "list", "tuple", "dict", "int", "str", "bool", "super"]
def hGlo1 : List Str := ["is_list", "is_whole", "is_positive", "is_name", "is_among", "checked_houses", "checked_roads", "checked_heads", "check_valley", "road_in", "lots_behind", "feasts_by",
  "known_begun", "is_begun", "checked_begun", "begun_parts", "feasts_so_far", "lots_by", "lots"]
def hGlo2 : List Str := ["_law_cell", "_law_source", "_law_draw", "_law_pick", "_law_mixed", "_law_same", "_law_loose", "_law_f_names", "_law_f_form", "_law_f_small",
  "_law_f_valley", "_law_f_handed", "_law_f_odd_valleys", "_law_f_begun", "_law_f_lots", "_law_f_begun_parts", "_law_f_so_far", "_law_f_odd_begun", "_law_f_put", "_law_met", "_law_turns_right", "_law_refused_right", "law", "Valley", "BadValley", "BadBegun"]
def hSpc : List He.Fa := [.str "SMALL" smallS, .str "FIGURES" figS, .cls "Valley", .mkr "Valley", .noat "Valley" "names", .noat "Valley" "ranks", .noat "Valley" "own_roads", .noat "Valley" "own_heads", .noat "Valley" "near", .noat "Valley" "places",
  .exm "BadValley" "BadValley" true, .exm "BadBegun" "BadValley" false, .exm "BadBegun" "BadBegun" true, .noat "BadValley" "thing", .noat "BadBegun" "begun"]
def hFa : List He.Fa := hFree.map (fun x => He.Fa.free x) ++ (hGlo1 ++ hGlo2).map (fun x => He.Fa.glo x) ++ hSpc
def hTf : List He.Defn := [("lots_behind", none), ("_law_refused_right", none)]
abbrev hR : PySem.W.OpenRow := PySem.W.OpenLaw.row PySem.Challenge.rw_feasted_k70_whole_begun_so_far
/-! ### classes whose instances isinstance tells -/
def clsIB (K : PySem.W.Frag) (C : Addr) : Bool :=
  decide (PySem.W.findIn K (.ref C) "__class__" = some (some (.builtin "object.__class__"))) &&
  (decide (PySem.W.specialIn K (.builtin "object.__class__") "__get__" = some (some (.builtin "getset_descriptor.__get__"))) &&
  (decide (PySem.W.takesIn K (.builtin "object.__class__") = some true) &&
  (decide (PySem.W.mroIn K C (.type "object") = some true) &&
  (decide (PySem.W.kitOne K (.ref C) (.ref C) = some true) &&
  ["NoneType", "bool", "int", "str", "list", "tuple", "dict"].all fun s => decide (PySem.W.kitOne K (.type s) (.ref C) = some false)))))
theorem clsI_of {K : PySem.W.Frag} {C : Addr} (c : Cls K C) (h : clsIB K C = true) : ClsI K C := by
  unfold clsIB at h
  obtain ⟨a1, h⟩ := Bool.and_eq_true_iff.mp h
  obtain ⟨a2, h⟩ := Bool.and_eq_true_iff.mp h
  obtain ⟨a3, h⟩ := Bool.and_eq_true_iff.mp h
  obtain ⟨a4, h⟩ := Bool.and_eq_true_iff.mp h
  obtain ⟨a5, h⟩ := Bool.and_eq_true_iff.mp h
  exact ⟨c, of_decide_eq_true a1, of_decide_eq_true a2, of_decide_eq_true a3, of_decide_eq_true a4, of_decide_eq_true a5, fun s hs => of_decide_eq_true (List.all_eq_true.mp h s hs)⟩
/-! ### the exceptions -/
def oexCB (K : PySem.W.Frag) (C : Addr) : Bool := match K.lookup C with
  | some ⟨.type t, _, .cls cd, sl⟩ => decide (t = "type") && (match cd.mro, sl.toList with
    | .ref D :: bm, [_, _, _, _, some (.builtin n), _] => decide (D = C) && (decide (n = "ValueError.__new__") && (!cd.hasDel && (cd.hasDict && PySem.HandSPX.refsVE bm)))
    | _, _ => false)
  | _ => false
theorem oex_of {K : PySem.W.Frag} {C : Addr} (h : oexCB K C = true) : ∃ nm q N bs bm sn sub ab col dd k0 k1 k2 k3 k5, K.lookup C = some (PySem.excClassObj nm q C N bs bm true sn sub ab col dd k0 k1 k2 k3 k5 "ValueError.__new__") ∧ PySem.HandSPX.refsVE bm = true := by
  unfold oexCB at h
  split at h
  · rename_i t dd cd sl ho
    obtain ⟨a1, h2⟩ := Bool.and_eq_true_iff.mp h
    clear h
    obtain rfl := of_decide_eq_true a1
    split at h2
    · rename_i D bm k0 k1 k2 k3 n k5 hm hs
      obtain ⟨a2, h3⟩ := Bool.and_eq_true_iff.mp h2
      clear h2
      obtain ⟨a3, h4⟩ := Bool.and_eq_true_iff.mp h3
      clear h3
      obtain ⟨a4, h5⟩ := Bool.and_eq_true_iff.mp h4
      clear h4
      obtain ⟨a5, h⟩ := Bool.and_eq_true_iff.mp h5
      clear h5
      obtain rfl := of_decide_eq_true a2
      obtain rfl := of_decide_eq_true a3
      obtain ⟨nm, bs, mro, ns, qn, hd, sn, sub, ab, col, del⟩ := cd
      have a4 : del = false := by simpa using a4
      have a5 : hd = true := a5
      have hm : mro = _ := hm
      subst a4 a5 hm
      obtain ⟨l⟩ := sl
      have hs : l = _ := hs
      subst hs
      exact ⟨nm, qn, ns, bs, bm, sn, sub, ab, col, dd, k0, k1, k2, k3, k5, ho, h⟩
    · cases h2
  · cases h
/-- an own __init__, as its object tells -/
abbrev IniV : Type := Option (Str × Str × Arguments × FuncBody × Scope × Addr × List Str × Addr)
def iniV (K : PySem.W.Frag) (x : Str) : IniV := match K.lookup (He.ma K (He.ga K x) "__init__") with
  | some ⟨_, _, .func fd, _⟩ => some (fd.name, fd.qualname, fd.params, fd.body, fd.scope, fd.globals, fd.closure.map fun q => q.1, fd.builtins)
  | _ => none
def iniW (q : Str) (i : Nat) : IniV := some ("__init__", q, defArgs (inClass (topS i) 0), .stmts (defBody (inClass (topS i) 0)), defScope (inClass (topS i) 0), mainGlobals, ["__class__"], builtinsNs)
def codeB (P : Program) (K : PySem.W.Frag) (cdv : Value) : Bool := match cdv with
  | .ref cda => (match K.lookup cda with
    | some ⟨_, _, .fields vs, _⟩ => (match vs[2]? with
      | some (Value.str file _) => ((P.main.file : PySem.Str) == file)
      | _ => false)
    | _ => false)
  | _ => false
def cellB (K : PySem.W.Frag) (C : Addr) (cl : List (Str × Addr)) : Bool := match cl with
  | [(_, cc)] => (match K.lookup cc with
    | some ⟨_, _, .cell (some (.ref D)), _⟩ => decide (D = C)
    | _ => false)
  | _ => false
def noneB : Value → Bool
  | .none => true
  | _ => false
theorem codeB_of {P : Program} {K : PySem.W.Frag} {cdv : Value} (h : codeB P K cdv = true) : ∃ cda : Addr, cdv = .ref cda ∧ ∃ (cl : Value) (cd : Option Addr) (vs : Array Value) (cs : Array (Option Value)) (file : PySem.Str) (tf : Tok), K.lookup cda = some ⟨cl, cd, .fields vs, cs⟩ ∧ vs[2]? = some (.str file tf) ∧ ((P.main.file : PySem.Str) == file) = true := by
  unfold codeB at h
  split at h
  · split at h
    · rename_i hl
      split at h
      · rename_i hv
        exact ⟨_, rfl, _, _, _, _, _, _, hl, hv, h⟩
      · cases h
    · cases h
  · cases h
theorem cellB_of {K : PySem.W.Frag} {C : Addr} {cl : List (Str × Addr)} (h : cellB K C cl = true) : ∃ (n : Str) (cc : Addr), cl = [(n, cc)] ∧ ∃ (cl : Value) (cd : Option Addr) (cs : Array (Option Value)), K.lookup cc = some ⟨cl, cd, .cell (some (.ref C)), cs⟩ := by
  unfold cellB at h
  split at h
  · split at h
    · rename_i hl
      obtain rfl := of_decide_eq_true h
      exact ⟨_, _, rfl, _, _, _, hl⟩
    · cases h
  · cases h
theorem noneB_of {v : Value} (h : noneB v = true) : v = .none := by
  cases v <;> first | rfl | cases h
def iniB (P : Program) (K : PySem.W.Frag) (x q : Str) : Bool :=
  decide (PySem.W.findIn K (.ref (He.ga K x)) "__init__" = some (some (.ref (He.ma K (He.ga K x) "__init__")))) &&
  (decide (PySem.W.typeIn K (.ref (He.ma K (He.ga K x) "__init__")) = some (.type "function")) &&
  (match K.lookup (He.ma K (He.ga K x) "__init__") with
    | some ⟨_, _, .func fd, _⟩ => PySem.W.codeIn K fd.code q && (noneB fd.defaults && (codeB P K fd.code && cellB K (He.ga K x) fd.closure))
    | _ => false))
theorem ini_of {P : Program} {K : PySem.W.Frag} {x q : Str} {i : Nat} (h : iniB P K x q = true) (e : iniV K x = iniW q i) : ∃ (fI cc cda : Addr) (oc : Value) (od : Option Addr) (osl : Array (Option Value)) (kV doc pm : Value) (an : Option Addr) (ct : Value),
    PySem.W.findIn K (.ref (He.ga K x)) "__init__" = some (some (.ref fI)) ∧ PySem.W.typeIn K (.ref fI) = some (.type "function") ∧
    K.lookup fI = some ⟨oc, od, .func (PySem.W.ksFn "__init__" q (defArgs (inClass (topS i) 0)) (defBody (inClass (topS i) 0)) (defScope (inClass (topS i) 0)) .none kV doc pm an (.ref cda) ct cc), osl⟩ ∧ PySem.W.codeIn K (.ref cda) q = true ∧
    (∃ (cl : Value) (cd : Option Addr) (vs : Array Value) (cs : Array (Option Value)) (file : PySem.Str) (tf : Tok), K.lookup cda = some ⟨cl, cd, .fields vs, cs⟩ ∧ vs[2]? = some (.str file tf) ∧ ((P.main.file : PySem.Str) == file) = true) ∧
    ∃ (cl : Value) (cd : Option Addr) (cs : Array (Option Value)), K.lookup cc = some ⟨cl, cd, .cell (some (.ref (He.ga K x))), cs⟩ := by
  unfold iniB at h
  obtain ⟨a1, h⟩ := Bool.and_eq_true_iff.mp h
  obtain ⟨a2, h⟩ := Bool.and_eq_true_iff.mp h
  unfold iniV at e
  cases z : K.lookup (He.ma K (He.ga K x) "__init__") with
  | none => rw [z] at h; cases h
  | some o =>
    obtain ⟨oc, od, dt, osl⟩ := o
    rw [z] at h e
    cases dt with
    | func fd =>
      obtain ⟨n1, n2, n3, n4, n5, n6, n7, n8, n9, n10, n11, n12, n13, n14, n15⟩ := fd
      have e : (some (n1, n2, n3, n4, n5, n6, n7.map fun q => q.1, n15) : IniV) = iniW q i := e
      unfold iniW at e
      simp only [Option.some.injEq, Prod.mk.injEq] at e
      obtain ⟨rfl, rfl, rfl, rfl, rfl, rfl, e7, rfl⟩ := e
      have h : (PySem.W.codeIn K n13 n2 && (noneB n8 && (codeB P K n13 && cellB K (He.ga K x) n7))) = true := h
      obtain ⟨b1, h⟩ := Bool.and_eq_true_iff.mp h
      obtain ⟨b2, h⟩ := Bool.and_eq_true_iff.mp h
      obtain ⟨b3, b4⟩ := Bool.and_eq_true_iff.mp h
      obtain rfl := noneB_of b2
      obtain ⟨cda, rfl, b5⟩ := codeB_of b3
      obtain ⟨nn, cc, rfl, cl2, cd2, cs2, b6⟩ := cellB_of b4
      have e8 : [nn] = [("__class__" : Str)] := e7
      obtain rfl : nn = "__class__" := List.head_eq_of_cons_eq e8
      exact ⟨_, cc, cda, oc, od, osl, n9, n10, n11, n12, n14, of_decide_eq_true a1, of_decide_eq_true a2, z, b1, b5, cl2, cd2, cs2, b6⟩
    | _ => cases h
def supB (P : Program) (K : PySem.W.Frag) (x q : Str) : Bool :=
  oexCB K (He.ga K x) && (decide (PySem.W.findIn K (.ref (He.ga K x)) "__setattr__" = some (some (.builtin "object.__setattr__"))) &&
  (decide (PySem.W.subIn K (.ref (He.ga K x)) (.type "BaseException") = some true) && (decide (PySem.W.typeIn K (.ref (He.ga K x)) = some (.type "type")) && (PySem.W.keepIn K (.ref (He.ga K x)) &&
  (PySem.W.excInitIn K (He.ga K x) [.type "ValueError", .type "Exception", .type "BaseException", .type "object"] "ValueError.__new__" &&
  (decide (PySem.W.mroIn K (He.ga K x) (.ref (He.ga K x)) = some true) && (decide (PySem.W.subIn K (.ref (He.ga K x)) (.type "ValueError") = some true) &&
  (decide (PySem.W.ks_superIn K (He.ga K x) (He.ga K x) "__init__" = some (some (.builtin "ValueError.__init__"))) && (decide (PySem.W.nsIn K cStatics "thirdparty.any" = some none) &&
  (iniB P K x q && L2.xfB K (He.ga K x)))))))))))
def posOf (l : List Stmt) : Fin 10 → Pos := match l with
  | [.Expr (.Call (.Attribute (.Call (.Name _ p0) _ _ p1) _ p2) (.Name _ p3 :: _) _ p4) p5, .Assign (.Attribute (.Name _ p6) _ p7 :: _) (.Name _ p8) p9] => fun i => [p0, p1, p2, p3, p4, p5, p6, p7, p8, p9].getD i.val p0
  | _ => fun _ => ⟨0, 0, 0, 0⟩
/-! ### what is asked of the top's heap -/
def kOf (g : Addr → Option Obj) : PySem.W.Frag := He.frT g (cStatics :: He.asD g 5)
def hEx (K : PySem.W.Frag) : Bool := clsIB K (He.ga K "Valley") && (supB hR.prog K "BadValley" "BadValley.__init__" && (supB hR.prog K "BadBegun" "BadBegun.__init__" && !decide ((He.cT K ("lots_behind", none)).2 = (He.cT K ("_law_refused_right", none)).2)))
abbrev AlK : Type := He.AlD × IniV × IniV × Bool
def obK (g : Addr → Option Obj) : AlK := (He.obsD hFa hFn (kOf g), iniV (kOf g) "BadValley", iniV (kOf g) "BadBegun", hEx (kOf g) && He.tabsB g hTf (kOf g))
def vaK : AlK := (He.valD hFn, iniW "BadValley.__init__" 14, iniW "BadBegun.__init__" 27, true)
structure Says (h : Heap) (K : PySem.W.Frag) : Prop where
  d : He.SaysD hFa hFn K
  iG : iniV K "BadValley" = iniW "BadValley.__init__" 14
  iB : iniV K "BadBegun" = iniW "BadBegun.__init__" 27
  more : hEx K = true
  hd : ∀ p ∈ hTf, PySem.W.codeHdIn K (He.cT K p).1 (He.cT K p).2 = true
  tab : ∀ p ∈ hTf, K.lookup (He.cT K p).2 = none ∧ h.get? (He.cT K p).2 = some { cls := .none, data := .fields #[] }
theorem says_of {h : Heap} (e : obK h.get? = vaK) : Says h (kOf h.get?) := by
  have e4 : (hEx (kOf h.get?) && He.tabsB h.get? hTf (kOf h.get?)) = true := congrArg (fun z : AlK => z.2.2.2) e
  obtain ⟨m, t⟩ := Bool.and_eq_true_iff.mp e4
  have one : ∀ p ∈ hTf, (PySem.W.codeHdIn (kOf h.get?) (He.cT (kOf h.get?) p).1 (He.cT (kOf h.get?) p).2 && (match h.get? (He.cT (kOf h.get?) p).2 with
    | some o => He.emptyTab o
    | none => false)) = true := fun p hp => List.all_eq_true.mp t p hp
  refine ⟨congrArg (fun z : AlK => z.1) e, congrArg (fun z : AlK => z.2.1) e, congrArg (fun z : AlK => z.2.2.1) e, m, fun p hp => (Bool.and_eq_true_iff.mp (one p hp)).1, fun p hp => ?_⟩
  have z := (Bool.and_eq_true_iff.mp (one p hp)).2
  split at z
  · rename_i o ho
    exact ⟨He.frT_none ho z, by rw [ho, He.emptyTab_eq z]⟩
  · cases z
def hookK : PySem.W.Hook where
  α := AlK
  obs := fun s => obK s.heap.get?
  val := fun _ => vaK
  says := fun _ h => ∃ K : PySem.W.Frag, K.In h ∧ Says h K
  of := fun _ _ e => ⟨_, He.frT_in, says_of e⟩
  keeps := fun _ _ _ ⟨K, hK, c⟩ k => ⟨K, PySem.W.Frag.In.keeps hK k, ⟨c.d, c.iG, c.iB, c.more, c.hd, fun p hp => ⟨(c.tab p hp).1, k _ _ (c.tab p hp).2⟩⟩⟩
def obT (s : PySem.W.SharedT) : AlK := obK (HandSHeadRun.getT s)
theorem obT_eq (s : PySem.W.SharedT) : obT s = hookK.obs s.abs := by
  have e : HandSHeadRun.getT s = s.abs.heap.get? := funext (HandSHeadRun.getT_eq s)
  show obK (HandSHeadRun.getT s) = obK s.abs.heap.get?
  rw [e]
theorem supC_of {P : Program} {K : PySem.W.Frag} {mg : Str → Option Value} {x q f : Str} {i : Nat} {q1 q2 : Pos} {qq : Fin 10 → Pos} (h : supB P K x q = true) (e : iniV K x = iniW q i) (f0 : PySem.W.findIn K (.ref (He.ga K x)) f = some none) (gs : mg "super" = none)
    (top : (P.main.scope.names.lookup ("super" : PySem.Str)).isSome = false) (bnd : supBnd f) (ne : f ≠ ("self" : PySem.Str)) (db : (f == ("__debug__" : PySem.Str)) = false) (hA : defArgs (inClass (topS i) 0) = supPs f q1 q2) (hB : defBody (inClass (topS i) 0) = supBd f qq)
    (n0 : ((defScope (inClass (topS i) 0)).names.all fun y => decide (y.2 ≠ .cell)) = true) (n1 : (defScope (inClass (topS i) 0)).isCoroutine = false) (n2 : (defScope (inClass (topS i) 0)).isGenerator = false) (n3 : (defScope (inClass (topS i) 0)).kind = .function) (n4 : ((qq 2).endLine == (qq 4).line) = true)
    (n5 : (defScope (inClass (topS i) 0)).names.lookup ("self" : PySem.Str) = some .local) (n6 : (defScope (inClass (topS i) 0)).names.lookup f = some .local) (n7 : (defScope (inClass (topS i) 0)).names.lookup ("super" : PySem.Str) = some .globalImplicit) (n8 : (defScope (inClass (topS i) 0)).names.lookup ("__class__" : PySem.Str) = some .free) :
    SupC P K mg (He.ga K x) f ∧ L2.XfC K (He.ga K x) := by
  unfold supB at h
  obtain ⟨a1, h⟩ := Bool.and_eq_true_iff.mp h
  obtain ⟨a2, h⟩ := Bool.and_eq_true_iff.mp h
  obtain ⟨a3, h⟩ := Bool.and_eq_true_iff.mp h
  obtain ⟨a4, h⟩ := Bool.and_eq_true_iff.mp h
  obtain ⟨a5, h⟩ := Bool.and_eq_true_iff.mp h
  obtain ⟨a6, h⟩ := Bool.and_eq_true_iff.mp h
  obtain ⟨a7, h⟩ := Bool.and_eq_true_iff.mp h
  obtain ⟨a8, h⟩ := Bool.and_eq_true_iff.mp h
  obtain ⟨a9, h⟩ := Bool.and_eq_true_iff.mp h
  obtain ⟨aA, h⟩ := Bool.and_eq_true_iff.mp h
  obtain ⟨aB, aC⟩ := Bool.and_eq_true_iff.mp h
  obtain ⟨fI, cc, cda, oc, od, osl, kV, doc, pm, an, ct, i1, i2, i3, i4, i5, i6⟩ := ini_of aB e
  rw [hA, hB] at i3
  exact ⟨⟨⟨oex_of a1, of_decide_eq_true a2, of_decide_eq_true a3, of_decide_eq_true a4, a5⟩, a6, f0, of_decide_eq_true a7, of_decide_eq_true a8, of_decide_eq_true a9, of_decide_eq_true aA, gs, top, bnd, ne, db,
    fI, cc, cda, oc, od, osl, q, q1, q2, qq, defScope (inClass (topS i) 0), kV, doc, pm, an, ct, i1, i2, i3, i4, i5, i6, fun y hy => of_decide_eq_true (List.all_eq_true.mp n0 y hy), n1, n2, n3, n4, n5, n6, n7, n8⟩, L2.xfB_ok aC⟩
theorem df_of {h : Heap} {K : PySem.W.Frag} {mg : Str → Option Value} (S : Says h K) (KX : K.In h) (G : h.Ns mainGlobals mg) {x : Str} {k : Nat} (i : Nat) (hd : hFn[i]? = some (mkD x k) := by rfl) (hg : hFa[18 + i]? = some (.glo x) := by rfl) : Df K mg x (topS k) := by
  obtain ⟨fd, F⟩ := S.d.def_ i hd
  exact ⟨_, fd, F, He.glo_ok KX G (S.d.fact (18 + i) hg)⟩
theorem dfC_of {h : Heap} {K : PySem.W.Frag} {mg : Str → Option Value} (S : Says h K) (KX : K.In h) (G : h.Ns mainGlobals mg) {x : Str} {k : Nat} (i : Nat) (hd : hFn[i]? = some (mkD x k) := by rfl) (hg : hFa[18 + i]? = some (.glo x) := by rfl) : DfC K mg x (topS k) (He.codeOf K (x, none)) := by
  obtain ⟨fd, F⟩ := S.d.def_ i hd
  refine ⟨_, fd, F, He.glo_ok KX G (S.d.fact (18 + i) hg), ?_⟩
  obtain ⟨oc, od, dV, kV, doc, pm, an, cdv, ct, osl, rfl, lk, hcd, _, _⟩ := F.ex
  obtain ⟨c, rfl⟩ := He.codeIn_ref hcd
  exact congrArg Value.ref (He.codeOf_eq lk rfl).symm
theorem tx_of {h : Heap} {K : PySem.W.Frag} {mg : Str → Option Value} (S : Says h K) (KX : K.In h) (G : h.Ns mainGlobals mg) : Tx hR.prog K mg (He.ga K "Valley") (He.ga K "BadValley") (He.ga K "BadBegun") := by
  have fr : ∀ {x : Str} (i : Nat), hFa[i]? = some (.free x) → mg x = none := fun i e => He.free_ok KX G (S.d.fact i e)
  have m := S.more
  unfold hEx at m
  obtain ⟨m1, m⟩ := Bool.and_eq_true_iff.mp m
  obtain ⟨m2, m⟩ := Bool.and_eq_true_iff.mp m
  obtain ⟨m3, m4⟩ := Bool.and_eq_true_iff.mp m
  have fG : PySem.W.findIn K (.ref (He.ga K "BadValley")) "thing" = some none := He.noat_ok (x := "BadValley") (f := "thing") (S.d.fact 76)
  have fB : PySem.W.findIn K (.ref (He.ga K "BadBegun")) "begun" = some none := He.noat_ok (x := "BadBegun") (f := "begun") (S.d.fact 77)
  have sG := supC_of (mg := mg) (qq := posOf (defBody (inClass (topS 14) 0))) m2 S.iG fG (fr 17 rfl) (by decide +kernel) sup_thing (by decide) (by decide) rfl rfl (by decide +kernel) rfl rfl rfl (by decide +kernel) (by decide +kernel) (by decide +kernel) (by decide +kernel) (by decide +kernel)
  have sB := supC_of (mg := mg) (qq := posOf (defBody (inClass (topS 27) 0))) m3 S.iB fB (fr 17 rfl) (by decide +kernel) sup_begun (by decide) (by decide) rfl rfl (by decide +kernel) rfl rfl rfl (by decide +kernel) (by decide +kernel) (by decide +kernel) (by decide +kernel) (by decide +kernel)
  refine ⟨fr 0 rfl, fr 1 rfl, fr 2 rfl, fr 3 rfl, fr 4 rfl, fr 5 rfl, fr 6 rfl, fr 7 rfl, fr 8 rfl, fr 9 rfl, fr 10 rfl, fr 11 rfl, fr 12 rfl, fr 13 rfl, fr 14 rfl, fr 15 rfl, fr 16 rfl, He.str_ok KX G (S.d.fact 63), He.str_ok KX G (S.d.fact 64),
    He.glo_ok KX G (S.d.fact 60), He.glo_ok KX G (S.d.fact 61), He.glo_ok KX G (S.d.fact 62), clsI_of (He.cls_ok (S.d.fact 65)) m1, fun f hf => ?_, sG.1, sB.1, ⟨sG.2, fG⟩, ⟨sB.2, fB⟩, He.exm_ok (x := "BadValley") (y := "BadValley") (S.d.fact 73), He.exm_ok (x := "BadBegun") (y := "BadValley") (S.d.fact 74), He.exm_ok (x := "BadBegun") (y := "BadBegun") (S.d.fact 75)⟩
  simp only [List.mem_cons, List.not_mem_nil, or_false] at hf
  rcases hf with rfl | rfl | rfl | rfl | rfl | rfl
  · exact He.noat_ok (S.d.fact 67)
  · exact He.noat_ok (S.d.fact 68)
  · exact He.noat_ok (S.d.fact 69)
  · exact He.noat_ok (S.d.fact 70)
  · exact He.noat_ok (S.d.fact 71)
  · exact He.noat_ok (S.d.fact 72)
end K70

/-! K81: the law's own call, from the heap that the top leaves. -/
namespace K70
open PySem PySem.Spec PyProof.Rows L2 LamX
abbrev tabO : Obj := { cls := .none, data := .fields #[] }
abbrev scrO (us : List Value) : Obj := { cls := .type "list", data := .seq us.toArray }
/-- what is tracked at first: the two tables, and the script where the module does not hold it -/
def firstH (K : PySem.W.Frag) (a P1 P2 : Addr) (us : List Value) (ns : List Int) : Hp := fun b =>
  if b = P1 ∨ b = P2 then some (.tbl #[]) else if b = a ∧ K.lookup a = none then some (.frz (scrO us) (.lst (ns.map V.int))) else none
section
variable {K : PySem.W.Frag} {a P1 P2 : Addr} {us : List Value} {ns : List Int} {h : Heap}
theorem firstH_tab {b : Addr} (e : b = P1 ∨ b = P2) : firstH K a P1 P2 us ns b = some (.tbl #[]) := if_pos e
theorem firstH_scr (n1 : a ≠ P1) (n2 : a ≠ P2) (k : K.lookup a = none) : firstH K a P1 P2 us ns a = some (.frz (scrO us) (.lst (ns.map V.int))) := by
  unfold firstH
  rw [if_neg (fun z => z.elim n1 n2), if_pos ⟨rfl, k⟩]
theorem firstH_some {b : Addr} {o : HO} (e : firstH K a P1 P2 us ns b = some o) : ((b = P1 ∨ b = P2) ∧ o = .tbl #[]) ∨ (b = a ∧ K.lookup a = none ∧ o = .frz (scrO us) (.lst (ns.map V.int))) := by
  unfold firstH at e
  split at e
  · rename_i z
    exact .inl ⟨z, (Option.some.inj e).symm⟩
  · split at e
    · rename_i z
      exact .inr ⟨z.1, z.2, (Option.some.inj e).symm⟩
    · cases e
theorem firstH_off (t1 : h.get? P1 = some tabO) (t2 : h.get? P2 = some tabO) (ha : h.get? a = some (scrO us)) {b : Addr} {o : Obj} (e : h.get? b = some o) (no : o ≠ tabO) (ns' : o ≠ scrO us) : firstH K a P1 P2 us ns b = none := by
  cases q : firstH K a P1 P2 us ns b with
  | none => rfl
  | some u =>
    rcases firstH_some q with ⟨rfl | rfl, _⟩ | ⟨rfl, _, _⟩
    · exact absurd (Option.some.inj (e.symm.trans t1)) no
    · exact absurd (Option.some.inj (e.symm.trans t2)) no
    · exact absurd (Option.some.inj (e.symm.trans ha)) ns'
theorem dict_no {o : Obj} {es : Array DictEntry} {ep : Nat} (d : o.data = .dict es ep) : o ≠ tabO ∧ o ≠ scrO us := by
  refine ⟨fun z => ?_, fun z => ?_⟩ <;> (rw [z] at d; cases d)
theorem firstH_ns (t1 : h.get? P1 = some tabO) (t2 : h.get? P2 = some tabO) (ha : h.get? a = some (scrO us)) {b : Addr} {m : Str → Option Value} (N : h.Ns b m) : (hidT h (firstH K a P1 P2 us ns)).Ns b m := by
  obtain ⟨o, es, ep, e, d, r⟩ := N
  exact ⟨o, es, ep, hidT_get e (firstH_off t1 t2 ha e (dict_no (us := us) d).1 (dict_no d).2), d, r⟩
theorem firstH_in (KX : K.In h) (k1 : K.lookup P1 = none) (k2 : K.lookup P2 = none) : K.In (hidT h (firstH K a P1 P2 us ns)) := fun b o e => hidT_get (KX b o e) (by
  cases q : firstH K a P1 P2 us ns b with
  | none => rfl
  | some u =>
    rcases firstH_some q with ⟨rfl | rfl, _⟩ | ⟨rfl, k, _⟩
    · rw [k1] at e; cases e
    · rw [k2] at e; cases e
    · rw [k] at e; cases e)
theorem firstH_tabB {mg : Str → Option Value} {c Pt : Addr} (t1 : h.get? P1 = some tabO) (t2 : h.get? P2 = some tabO) (ha : h.get? a = some (scrO us)) (hP : Pt = P1 ∨ Pt = P2) (G : h.Ns mainGlobals mg) (C : PySem.W.CodeHd h c Pt)
    (hbm : ∃ (bm : Addr) (ob : Obj), mg "__builtins__" = some (.ref bm) ∧ bm ≠ builtinsNs ∧ h.get? bm = some ob ∧ ob.cls = .type "module" ∧ ob.dict = some builtinsNs ∧ ob.data = .plain) : TabB (hidT h (firstH K a P1 P2 us ns)) mg c Pt := by
  have tP : h.get? Pt = some tabO := hP.elim (fun z => z ▸ t1) fun z => z ▸ t2
  obtain ⟨og, es, ep, eg, dg, _⟩ := G
  refine ⟨?_, ?_, fun z => ?_⟩
  · obtain ⟨o, vs, file, tf, flags, tg, inF, text, tt, e1, r1, r⟩ := C
    refine ⟨o, vs, file, tf, flags, tg, inF, text, tt, hidT_get e1 (firstH_off t1 t2 ha e1 (fun z => ?_) fun z => ?_), r1, r⟩
    · rw [z] at r1
      cases r1
    · rw [z] at r1
      have r2 : ("list" : String) = "code" := Value.type.inj r1
      exact absurd r2 (by decide)
  · obtain ⟨bm, ob, b1, b2, b3, b4, b5, b6⟩ := hbm
    refine ⟨bm, ob, b1, b2, fun z => ?_, fun z => ?_, hidT_get b3 (firstH_off t1 t2 ha b3 (fun z => ?_) fun z => ?_), b4, b5, b6⟩
    · rw [z, eg] at b3
      obtain rfl := Option.some.inj b3
      rw [dg] at b6
      cases b6
    · rw [z, tP] at b3
      obtain rfl := Option.some.inj b3
      cases b6
    · rw [z] at b6
      cases b6
    · rw [z] at b6
      cases b6
  · rw [z, tP] at eg
    obtain rfl := Option.some.inj eg
    cases dg
end
/-- the call keeps its promise -/
theorem law_told {P : Program} {w : World} {K : PySem.W.Frag} {mg mb : Str → Option Value} {fa a c1 c2 P1 P2 : Addr} {s : Shared} {us : List Value} {ns : List Int} (KX : K.In s.heap) (G : s.heap.Ns mainGlobals mg) (B : s.heap.Ns builtinsNs mb) (hB : ∀ x : Str, x ≠ "__name__" → mb x = bootBuiltins x)
    (nl : s.heap.NoLimit) (hg : s.gens = #[]) (t1 : s.heap.get? P1 = some tabO) (t2 : s.heap.get? P2 = some tabO) (k1 : K.lookup P1 = none) (k2 : K.lookup P2 = none) (C1 : PySem.W.CodeHd s.heap c1 P1) (C2 : PySem.W.CodeHd s.heap c2 P2)
    (hbm : ∃ (bm : Addr) (ob : Obj), mg "__builtins__" = some (.ref bm) ∧ bm ≠ builtinsNs ∧ s.heap.get? bm = some ob ∧ ob.cls = .type "module" ∧ ob.dict = some builtinsNs ∧ ob.data = .plain)
    (ha : s.heap.get? a = some (scrO us)) (hi : IntsAre us ns) (hl : ns.length ≤ sizeLine) (hm : mg "law" = some (.ref fa))
    (F : ∀ base : Heap, K.In base → base.Ns mainGlobals mg → TabB base mg c1 P1 → TabB base mg c2 P2 → ClG P w K mg base CX0 11 "law" (spLaw K P1 P2)) :
    codeAny (model P w) callerA (.call (.ref fa) ⟨[.ref a], []⟩) (fun r s' => r = .ok (.ret (.bool true)) ∧ OldK s.heap s'.heap ∧ s'.os = s.os ∧ AllBare s'.gens) s := by
  have rv := vals_ints hi
  have ln := hi.length
  have n1 : a ≠ P1 := fun z => by
    rw [z, t1] at ha
    cases Option.some.inj ha
  have n2 : a ≠ P2 := fun z => by
    rw [z, t2] at ha
    cases Option.some.inj ha
  have G' := firstH_ns (K := K) (ns := ns) t1 t2 ha G
  have K' := firstH_in (a := a) (us := us) (ns := ns) KX k1 k2
  obtain ⟨f, fd, ps, run, len, gx, kp, bi⟩ := (F _ K' G' (firstH_tabB t1 t2 ha (.inl rfl) G C1 hbm) (firstH_tabB t1 t2 ha (.inr rfl) G C2 hbm)).ex
  rw [hm] at gx
  obtain rfl : fa = f := Value.ref.inj (Option.some.inj gx)
  have hok : HOk P w (firstH K a P1 P2 us ns) s.heap := fun b o e => by
    rcases firstH_some e with ⟨rfl | rfl, rfl⟩ | ⟨rfl, _, rfl⟩
    · exact t1
    · exact t2
    · exact ⟨ha, by rw [List.length_map]; exact hl, us, _, rv, ha⟩
  have scr : SqL K (firstH K a P1 P2 us ns) a (ns.map V.int) := by
    cases hk : K.lookup a with
    | none => exact .inl (.inr ⟨_, firstH_scr n1 n2 hk⟩)
    | some o =>
      obtain rfl := Option.some.inj ((KX a o hk).symm.trans ha)
      exact .inr ⟨_, us.toArray, _, hk, rfl, rfl, rfl, by rw [List.size_toArray, ln]; exact hl, by simpa using rv⟩
  have tabs : Tabs (tabsT P1 P2) (firstH K a P1 P2 us ns) := fun p hp => by
    simp only [List.mem_cons, List.not_mem_nil, or_false] at hp
    rcases hp with rfl | rfl
    · exact ⟨#[], firstH_tab (.inl rfl), trivial, fun _ _ z => (nomatch z)⟩
    · exact ⟨#[], firstH_tab (.inr rfl), trivial, fun _ _ z => (nomatch z)⟩
  have e0 : Env0 P w K mg (hidT s.heap (firstH K a P1 P2 us ns)) callerA [] s (firstH K a P1 P2 us ns) :=
    { frames := rfl, mod := ⟨K', G', ⟨mb, firstH_ns t1 t2 ha B, hB⟩, let ⟨mc, z1, z2⟩ := nl; ⟨mc, firstH_ns t1 t2 ha z1, z2⟩⟩, bs := fun b o e => of_hidT e, bsz := Nat.le_of_eq (hidT_size _ _), funs := trivial, frf := fun b hb => (nomatch hb), hok := hok, bare := .of_eq hg }
  have sp0 : spLaw K P1 P2 [.ref a] (firstH K a P1 P2 us ns) (fun v _ => v = .bl true) (fun _ _ _ => False) := ⟨a, ns, rfl, scr, tabs, fun _ => rfl⟩
  have b0 := bi s [.ref a] KX (by rw [List.append_nil]; exact len _ _ _ _ sp0)
  rw [List.append_nil] at b0
  refine codeAny_mono (run callerA [] s _ ⟨[.ref a], []⟩ [.ref a] [.ref a] _ _ rfl (by constructor <;> decide) e0 b0 (.cons rfl .nil) sp0) fun r s' hc => ?_
  cases r with
  | error e => exact False.elim hc
  | ok fl =>
    cases fl with
    | ret u =>
      obtain ⟨v, H', os, bare, un, hok', rl, q⟩ := hc
      obtain rfl : v = .bl true := q
      obtain rfl : u = Value.bool true := rl
      have grown : ∀ {p : Addr}, (p = P1 ∨ p = P2) → ∃ more : Array Value, s'.heap.get? p = some { cls := .none, data := .fields more } := fun {p} hp => by
        obtain ⟨more, z⟩ := un.tbls p #[] (firstH_tab hp)
        exact ⟨_, hok' p _ z⟩
      have rest : ∀ {b : Addr} {o : Obj}, ¬ (b = P1 ∨ b = P2) → s.heap.get? b = some o → s'.heap.get? b = some o := fun {b o} nb e => by
        cases z : firstH K a P1 P2 us ns b with
        | none => exact un.keep b o e z (by intro m; cases m) (by intro m; cases m)
        | some v =>
          rcases firstH_some z with ⟨m, _⟩ | ⟨rfl, _, rfl⟩
          · exact absurd m nb
          · rw [ha] at e
            obtain rfl := Option.some.inj e
            exact (hok' _ _ (un.frzs _ _ _ z)).1
      refine ⟨rfl, ⟨fun b o e => ?_, fun b o e => ?_⟩, os, bare⟩
      · by_cases nb : b = P1 ∨ b = P2
        · obtain ⟨more, hm'⟩ := grown nb
          have tb : s.heap.get? b = some tabO := nb.elim (fun z => z ▸ t1) fun z => z ▸ t2
          have ct : isCodeTable s.heap b := nb.elim (fun z => z ▸ (C1.tab t1).isCodeTable) fun z => z ▸ (C2.tab t2).isCodeTable
          rw [tb] at e
          obtain rfl := Option.some.inj e
          exact .inr (.inl ⟨ct, rfl, #[], more, rfl, by rw [Array.empty_append]; exact hm'⟩)
        · exact .inl (rest nb e)
      · by_cases nb : b = P1 ∨ b = P2
        · obtain ⟨more, hm'⟩ := grown nb
          exact ⟨_, hm'⟩
        · exact ⟨o, rest nb e⟩
    | next => exact False.elim hc
    | brk => exact False.elim hc
    | cont => exact False.elim hc
end K70

/-! K8R: the run of the top. -/
namespace K70
open PySem PySem.Spec PyProof.Rows L2
def hNames1 : List PySem.Str := ["_wall", "SMALL", "FIGURES", "is_list", "is_whole", "is_positive", "is_name", "is_among", "FeastError", "BadHouses", "BadRoads", "BadHeads", "BadValley", "NoHouse", "Valley", "checked_houses", "checked_roads", "checked_heads", "check_valley", "road_in", "lots_behind", "feasts_by", "BadBegun", "known_begun", "is_begun", "checked_begun", "begun_parts", "feasts_so_far", "lots_by", "lots"]
def hNames2 : List PySem.Str := ["_law_cell", "_law_source", "_law_draw", "_law_pick", "_law_mixed", "_law_same", "_law_loose", "_law_f_names", "_law_f_form", "_law_f_small", "_law_f_valley", "_law_f_handed", "_law_f_odd_valleys", "_law_f_begun", "_law_f_lots", "_law_f_begun_parts", "_law_f_so_far", "_law_f_odd_begun", "_law_f_put", "_law_met", "_law_turns_right", "_law_refused_right"]
def hNames : List PySem.Str := hNames1 ++ hNames2
theorem hRun (w : World) : HandSHeadRun.RunEq hR (PySem.W.view hR.prog [59]) hookK obT 4200 hNames w := by
  intro os
  kernel_rfl
end K70

/-! K82: the law's def over the top's heap; the row. -/
namespace K70
open PySem PySem.Spec PyProof.Rows L2 LamX
theorem law_def {w : World} {h base : Heap} {K : PySem.W.Frag} {mg : Str → Option Value} (S : Says h K) (KX : K.In h) (G : h.Ns mainGlobals mg)
    (T1 : TabB base mg (He.cT K ("lots_behind", none)).1 (He.cT K ("lots_behind", none)).2) (T2 : TabB base mg (He.cT K ("_law_refused_right", none)).1 (He.cT K ("_law_refused_right", none)).2) :
    ClG hR.prog w K mg base CX0 11 "law" (spLaw K (He.cT K ("lots_behind", none)).2 (He.cT K ("_law_refused_right", none)).2) := by
  have T := tx_of S KX G
  have n12 : (He.cT K ("lots_behind", none)).2 ≠ (He.cT K ("_law_refused_right", none)).2 := by
    have m := S.more
    unfold hEx at m
    obtain ⟨_, m⟩ := Bool.and_eq_true_iff.mp m
    obtain ⟨_, m⟩ := Bool.and_eq_true_iff.mp m
    obtain ⟨_, m⟩ := Bool.and_eq_true_iff.mp m
    exact fun z => by
      rw [decide_eq_true z] at m
      cases m
  obtain ⟨fdI, FI⟩ := S.d.def_ 42
  have MV := He.mkr_ok (x := "Valley") (S.d.fact 66)
  have is_list := ok_is_list (P := hR.prog) (w := w) (base := base) T (df_of S KX G 0)
  have is_whole := ok_is_whole (P := hR.prog) (w := w) (base := base) T (df_of S KX G 1)
  have is_positive := ok_is_positive T (df_of S KX G 2) is_whole
  have is_name := ok_is_name (P := hR.prog) (w := w) (base := base) T (df_of S KX G 3)
  have is_among := ok_is_among (P := hR.prog) (w := w) (base := base) T (df_of S KX G 4)
  have houses := ok_houses T (df_of S KX G 5) is_list is_name
  have roads := ok_roads T (df_of S KX G 6) is_list is_among
  have heads := ok_heads T (df_of S KX G 7) is_list is_positive
  have check := ok_check (P := hR.prog) (w := w) (base := base) T (df_of S KX G 8)
  have road_in := ok_road_in T (df_of S KX G 9) is_list is_among
  have behind := ok_behind (P := hR.prog) (w := w) T (dfC_of S KX G 10) T1 n12
  have by_ := ok_by (P := hR.prog) (w := w) (base := base) T (df_of S KX G 11)
  have known := ok_known T (df_of S KX G 12) is_list road_in
  have is_begun := ok_is_begun T (df_of S KX G 13) check known
  have checked := ok_checked T (df_of S KX G 14) check known
  have parts := ok_parts (P := hR.prog) (w := w) (base := base) T (df_of S KX G 15)
  have sofar := ok_sofar T (df_of S KX G 16) checked parts by_
  have lots_by := ok_lots_by T (df_of S KX G 17) behind
  have lots := ok_lots T (df_of S KX G 18) checked lots_by
  have cell := ok_cell (P := hR.prog) (w := w) (base := base) T (df_of S KX G 19)
  have source := ok_source T (df_of S KX G 20) cell
  have draw := ok_draw (P := hR.prog) (w := w) (base := base) T (df_of S KX G 21)
  have pick := ok_pick T (df_of S KX G 22) draw
  have mixed := ok_mixed T (df_of S KX G 23) draw
  have same := ok_same (P := hR.prog) (w := w) (base := base) T (df_of S KX G 24)
  have lo0 := ok_lo0 T (df_of S KX G 25) draw
  have lo1 := ok_loS stb_atm T (df_of S KX G 25) draw lo0
  have lo2 := ok_loS stb_atm.up T (df_of S KX G 25) draw lo1
  have names := ok_names T (df_of S KX G 26) mixed
  have form := ok_form T (df_of S KX G 27) draw pick mixed names
  have small := ok_small (df_of S KX G 28) draw form
  have init := ok_init T FI houses roads heads
  have valley := ok_valley T (df_of S KX G 29) FI MV init lo1 lo2
  have handed := ok_handed (df_of S KX G 30) draw lo2
  have oddv := ok_oddv (P := hR.prog) (w := w) (base := base) T (df_of S KX G 31)
  have begun := ok_begun T (df_of S KX G 32) draw mixed
  have flots := ok_flots (P := hR.prog) (w := w) (base := base) T (df_of S KX G 33)
  have fparts := ok_fparts (P := hR.prog) (w := w) (base := base) T (df_of S KX G 34)
  have fsofar := ok_fsofar T (df_of S KX G 35) fparts
  have oddb := ok_oddb (P := hR.prog) (w := w) (base := base) T (df_of S KX G 36)
  have put := ok_put (P := hR.prog) (w := w) (base := base) T (df_of S KX G 37)
  have turns := ok_turns T (df_of S KX G 39) valley begun handed fsofar flots sofar.1 sofar.2 lots.1 lots.2 is_begun.1 is_begun.2 (same 5) put
  have refused := ok_refused T (dfC_of S KX G 40) T2 n12 (df_of S KX G 38) small valley oddv oddb sofar.1 lots.1 is_begun.1 (same 8)
  exact ok_law T (df_of S KX G 41) source draw form small turns refused
end K70
open PySem PySem.W PySem.Calls PyProof.Rows
theorem PySem.Challenge.cw_feasted_k70_whole_begun_so_far_holds : PySem.Challenge.rw_feasted_k70_whole_begun_so_far.Holds := by
  w_on; o_law
  refine HandSHeadRun.head_any (r := K70.hR) (q := view K70.hR.prog [59]) (H := K70.hookK) (ob := K70.obT) (M := 4200) (loose := K70.hNames) (d := HandSHeadRun.topDef K70.hR.prog 59) (kwd := []) K70.obT_eq
    (by kernel_rfl) (fun s => by kernel_rfl) K70.hRun (by kernel_rfl) (by kernel_rfl) (by kernel_rfl) (by rfl) (by first | assumption | decide +kernel) (by decide +kernel) ⟨rfl, rfl, rfl, rfl, rfl, by decide +kernel⟩ ?hw ?hc
  case hw => w_witness2
  case hc =>
    refine Att.attach_callB (l := PySem.Challenge.rw_feasted_k70_whole_begun_so_far) (n := 63) rfl (by kernel_rfl) fun w s₀ s₁ mg mb fa o pm cd doc a us ns G Y ho hd hcd hm0 ha hi hl _ hg => ?_
    obtain ⟨K, KX, S⟩ := Y
    have hm : mg ("law" : PySem.Str) = some (.ref fa) := by
      have e : (HandSHeadRun.topDef K70.hR.prog 59).name = ("law" : PySem.Str) := by kernel_rfl
      rw [← e]
      exact hm0
    have m1 : (("lots_behind", none) : He.Defn) ∈ K70.hTf := List.mem_cons_self ..
    have m2 : (("_law_refused_right", none) : He.Defn) ∈ K70.hTf := List.mem_cons_of_mem _ (List.mem_cons_self ..)
    exact K70.law_told KX G.T.g G.T.b G.T.builtins G.T.nolimit hg (S.tab _ m1).2 (S.tab _ m2).2 (S.tab _ m1).1 (S.tab _ m2).1 (PySem.W.codeHd_of_K KX (S.hd _ m1)) (PySem.W.codeHd_of_K KX (S.hd _ m2)) G.T.bmain ha hi (Nat.le_trans hl (by decide)) hm
      fun base _ _ T1 T2 => K70.law_def S KX G.T.g T1 T2
