import PyProof.Rows.All
import Wide.All
import OpenK.AllK
import Wide.FinOn
import PySem.Challenge.RW_rg0142_01
open PySem PySem.W PyProof.Rows PySem.Calls
set_option Elab.async false
set_option maxRecDepth 100000
set_option maxHeartbeats 8000000
set_option linter.all false
set_option compiler.extract_closed false
namespace Mine
structure Cx where
  prog : Program
  w : World
  g : Array GenState
  d : Drawn
  o : OsState
noncomputable def W (c : Cx) (A : Around) {α : Type} (t : Sem α) (h : Heap) (Q : α → Heap → Prop) : Prop :=
  ∀ tk, wpAny (model c.prog c.w) A t (fun a s' => ∃ h' tk', s' = ⟨h', c.g, c.d, tk', c.o⟩ ∧ Q a h') (fun _ _ => False) ⟨h, c.g, c.d, tk, c.o⟩
section
variable {c : Cx} {A : Around} {α β : Type} {h : Heap}
theorem W.mono {t : Sem α} {Q Q' : α → Heap → Prop} (x : W c A t h Q) (k : ∀ a h', Q a h' → Q' a h') : W c A t h Q' :=
  fun tk => wpAny_mono (x tk) (fun a s' ⟨h', tk', e, q⟩ => ⟨h', tk', e, k a h' q⟩) fun _ _ x => x
theorem W.pure {a : α} {Q : α → Heap → Prop} (x : Q a h) : W c A (Pure.pure a) h Q := fun tk => wpAny_pure ⟨h, tk, rfl, x⟩
theorem W.bind {t : Sem α} {f : α → Sem β} {Q : β → Heap → Prop} (x : W c A t h (fun a h' => W c A (f a) h' Q)) : W c A (t >>= f) h Q :=
  fun tk => wpAny_bind (wpAny_mono (x tk) (fun a s' ⟨h', tk', e, q⟩ => by subst e; exact q tk') fun _ _ x => x)
theorem W.use {t : Sem α} {Q : α → Heap → Prop} (x : W c A t h Q) {tk : Nat} {Q' : α → Shared → Prop} {E : Value → Shared → Prop}
    (k : ∀ a h' tk', Q a h' → Q' a ⟨h', c.g, c.d, tk', c.o⟩) : wpAny (model c.prog c.w) A t Q' E ⟨h, c.g, c.d, tk, c.o⟩ :=
  wpAny_mono (x tk) (fun a s' ⟨h', tk', e, q⟩ => by subst e; exact k a h' tk' q) fun _ _ x => x.elim
end
inductive AV where
  | none
  | bool (b : Bool)
  | int (i : Int)
  | str (s : Str)
  | ref (a : Addr)
noncomputable def AV.is : AV → Value → Prop
  | .none, v => v = .none
  | .bool b, v => v = .bool b
  | .int i, v => ∃ t, v = .int i t
  | .str s, v => ∃ t, v = .str s t
  | .ref a, v => v = .ref a
noncomputable def AV.All (x : AV) (P : Value → Prop) : Prop := ∀ v, x.is v → P v
theorem AV.all_ref {a : Addr} {P : Value → Prop} (q : P (.ref a)) : AV.All (.ref a) P := fun _ e => by cases e; exact q
theorem AV.all_int {i : Int} {P : Value → Prop} (q : ∀ t, P (.int i t)) : AV.All (.int i) P := fun _ ⟨t, e⟩ => by cases e; exact q t
theorem AV.is_ref {a : Addr} : AV.is (.ref a) (.ref a) := rfl
theorem AV.is_int {i : Int} {t : Tok} : AV.is (.int i) (.int i t) := ⟨t, rfl⟩
theorem if_both {b : Bool} {P Q : Prop} (p : b = true → P) (q : b = false → Q) : if b = true then P else Q := by
  cases b with
  | true => rw [if_pos rfl]; exact p rfl
  | false => rw [if_neg Bool.false_ne_true]; exact q rfl
inductive AVs : List AV → List Value → Prop
  | nil : AVs [] []
  | cons {x v xs vs} : AV.is x v → AVs xs vs → AVs (x :: xs) (v :: vs)
theorem AV.handed {x : AV} {v : Value} (h : x.is v) : handedIn v = true := by
  cases x with
  | none => cases h; rfl
  | bool b => cases h; rfl
  | int i => obtain ⟨t, rfl⟩ := h; rfl
  | str s => obtain ⟨t, rfl⟩ := h; rfl
  | ref a => cases h; rfl
theorem AVs.length {xs : List AV} {vs : List Value} (h : AVs xs vs) : xs.length = vs.length := by
  induction h with
  | nil => rfl
  | cons _ _ ih => rw [List.length_cons, List.length_cons, ih]
theorem AVs.append {xs ys : List AV} {vs ws : List Value} (h : AVs xs vs) (k : AVs ys ws) : AVs (xs ++ ys) (vs ++ ws) := by
  induction h with
  | nil => exact k
  | cons a _ ih => exact .cons a ih
theorem AVs.get {xs : List AV} {vs : List Value} (h : AVs xs vs) {i : Nat} {x : AV} (e : xs[i]? = some x) : ∃ v, vs[i]? = some v ∧ x.is v := by
  induction h generalizing i with
  | nil => cases e
  | cons a _ ih =>
    cases i with
    | zero => simp only [List.getElem?_cons_zero, Option.some.injEq] at e; subst e; exact ⟨_, rfl, a⟩
    | succ i => exact ih e
inductive Flds : List (Str × AV) → List DictEntry → Prop
  | nil : Flds [] []
  | cons {k : Str} {x : AV} {fs : List (Str × AV)} {hsh : Int} {t : Tok} {v : Value} {es : List DictEntry} : x.is v → Flds fs es → Flds ((k, x) :: fs) (⟨hsh, .str k t, v⟩ :: es)
inductive AObj where
  | inst (C dx : Addr)
  | attrs (fs : List (Str × AV))
  | lst (vs : List AV)
  | tup (vs : List AV)
  | idict (kvs : List (Int × AV))
  | cell (v : Option AV)
  | raw (o : Obj)
inductive IKvs : List (Int × AV) → List (Int × Value) → Prop
  | nil : IKvs [] []
  | cons {k : Int} {x : AV} {v : Value} {r : List (Int × AV)} {r' : List (Int × Value)} : x.is v → IKvs r r' → IKvs ((k, x) :: r) ((k, v) :: r')
noncomputable def AObj.Is (c : Cx) : AObj → Obj → Prop
  | .inst C dx, o => o = instObj C dx
  | .attrs fs, o => ∃ es n, o = dictOf es n ∧ Flds fs es ∧ (fs.map (·.1)).Nodup ∧ fs.length ≤ 500
  | .lst vs, o => ∃ ws n, o = W.listOf ws.toArray n ∧ AVs vs ws
  | .tup vs, o => ∃ ws n, o = ({ cls := .type "tuple", data := .seq ws.toArray n } : Obj) ∧ AVs vs ws
  | .idict kvs, o => ∃ kws, Obj.IsDictOf (intKind c.prog c.w) o kws ∧ IKvs kvs kws
  | .cell x, o => match x with
    | none => o.data = .cell none
    | some x => ∃ v, o.data = .cell (some v) ∧ x.is v
  | .raw o', o => o = o'
inductive Led (c : Cx) : List (Addr × AObj) → List (Addr × Obj) → Prop
  | nil : Led c [] []
  | cons {a : Addr} {x : AObj} {o : Obj} {l : List (Addr × AObj)} {r : List (Addr × Obj)} : x.Is c o → Led c l r → Led c ((a, x) :: l) ((a, o) :: r)
theorem Led.keys {c : Cx} {l : List (Addr × AObj)} {r : List (Addr × Obj)} (h : Led c l r) : r.map (·.1) = l.map (·.1) := by
  induction h with
  | nil => rfl
  | cons _ _ ih => rw [List.map_cons, List.map_cons, ih]
theorem Led.mem {c : Cx} {l : List (Addr × AObj)} {r : List (Addr × Obj)} (h : Led c l r) {a : Addr} {x : AObj} (m : (a, x) ∈ l) : ∃ o, (a, o) ∈ r ∧ x.Is c o := by
  induction h with
  | nil => cases m
  | cons q _ ih =>
    cases m with
    | head => exact ⟨_, .head _, q⟩
    | tail _ m => obtain ⟨o, h1, h2⟩ := ih m; exact ⟨o, .tail _ h1, h2⟩
structure LD (c : Cx) (g : Heap) (L : Addr) (m : Str → Option Value) (h : Heap) (l : List (Addr × AObj)) : Prop where
  fr : Fr g L h m
  nd : (l.map (·.1)).Nodup
  nw : ∃ r, Led c l r ∧ News g L h r
inductive UpdA (d : Addr) (x x' : AObj) : List (Addr × AObj) → List (Addr × AObj) → Prop
  | head {r} : UpdA d x x' ((d, x) :: r) ((d, x') :: r)
  | tail {p r r'} : UpdA d x x' r r' → UpdA d x x' (p :: r) (p :: r')
theorem UpdA.keys {d : Addr} {x x' : AObj} {l l' : List (Addr × AObj)} (u : UpdA d x x' l l') : l'.map (·.1) = l.map (·.1) := by
  induction u with
  | head => rfl
  | tail _ ih => rw [List.map_cons, List.map_cons, ih]
theorem UpdA.memKey {d : Addr} {x x' : AObj} {l l' : List (Addr × AObj)} (u : UpdA d x x' l l') : d ∈ l.map (·.1) := by
  induction u with
  | head => exact .head _
  | tail _ ih => exact .tail _ ih
theorem UpdA.memOld {d : Addr} {x x' : AObj} {l l' : List (Addr × AObj)} (u : UpdA d x x' l l') : (d, x) ∈ l := by
  induction u with
  | head => exact .head _
  | tail _ ih => exact .tail _ ih
theorem UpdA.led {c : Cx} {d : Addr} {x x' : AObj} {l l' : List (Addr × AObj)} (u : UpdA d x x' l l') (nd : (l.map (·.1)).Nodup) {r : List (Addr × Obj)} (hl : Led c l r) :
    ∃ o, x.Is c o ∧ (d, o) ∈ r ∧ ∀ o', x'.Is c o' → ∃ r', Upd d o o' r r' ∧ Led c l' r' := by
  induction u generalizing r with
  | @head r0 =>
    cases hl with
    | @cons _ _ o _ r1 q hr =>
      refine ⟨o, q, .head _, fun o' q' => ⟨_, .head fun p hp e => ?_, .cons q' hr⟩⟩
      rw [List.map_cons, List.nodup_cons] at nd
      exact nd.1 (by rw [← hr.keys, ← e]; exact List.mem_map_of_mem hp)
  | @tail p r0 r0' u ih =>
    cases hl with
    | @cons a y oy _ r1 q hr =>
      rw [List.map_cons, List.nodup_cons] at nd
      obtain ⟨o, h1, h2, h3⟩ := ih nd.2 hr
      refine ⟨o, h1, .tail _ h2, fun o' q' => ?_⟩
      obtain ⟨r', h4, h5⟩ := h3 o' q'
      exact ⟨_, .tail (fun e => nd.1 (by have := u.memKey; rw [← e] at this; exact this)) h4, .cons q h5⟩
section
variable {c : Cx} {g h : Heap} {L : Addr} {m : Str → Option Value} {l l' : List (Addr × AObj)}
theorem LD.at (D : LD c g L m h l) {a : Addr} {x : AObj} (hm : (a, x) ∈ l) : ∃ o, h.get? a = some o ∧ x.Is c o := by
  obtain ⟨r, hr, N⟩ := D.nw
  obtain ⟨o, h1, h2⟩ := hr.mem hm
  exact ⟨o, N.get h1, h2⟩
theorem Led.sub {c : Cx} {r : List (Addr × Obj)} (hr : Led c l r) : ∀ {l'' : List (Addr × AObj)}, (∀ p ∈ l'', p ∈ l) → ∃ r', Led c l'' r' ∧ ∀ p ∈ r', p ∈ r
  | [], _ => ⟨[], .nil, fun _ hp => nomatch hp⟩
  | (a, x) :: l'', hs => by
    obtain ⟨o, h1, h2⟩ := hr.mem (hs (a, x) (.head _))
    obtain ⟨r', h3, h4⟩ := hr.sub (l'' := l'') fun p hp => hs p (.tail _ hp)
    refine ⟨(a, o) :: r', .cons h2 h3, fun p hp => ?_⟩
    rcases List.mem_cons.mp hp with rfl | hp
    · exact h1
    · exact h4 p hp
theorem LD.sub (D : LD c g L m h l) (hs : ∀ p ∈ l', p ∈ l) (nd : (l'.map (·.1)).Nodup) : LD c g L m h l' := by
  obtain ⟨r, hr, N⟩ := D.nw
  obtain ⟨r', h3, h4⟩ := hr.sub hs
  exact ⟨D.fr, nd, r', h3, fun p hp => N p (h4 p hp)⟩
theorem LD.perm (D : LD c g L m h l) (p : l'.Perm l) : LD c g L m h l' :=
  D.sub (fun _ hq => p.mem_iff.mp hq) ((p.map (·.1)).nodup_iff.mpr D.nd)
noncomputable def frontL {α : Type} : Nat → List α → List α
  | 0, l => l
  | _ + 1, [] => []
  | n + 1, x :: r => match frontL n r with
    | [] => [x]
    | y :: r' => y :: x :: r'
noncomputable def frontsL {α : Type} : List Nat → List α → List α
  | [], l => l
  | n :: ns, l => frontL n (frontsL ns l)
theorem LD.drop {p : Addr × AObj} (D : LD c g L m h (p :: l)) : LD c g L m h l := D.sub (fun _ hq => .tail _ hq) (List.nodup_cons.mp D.nd).2
theorem LD.new (D : LD c g L m h l) {a : Addr} (ha : h.objs.size ≤ a) : a ∉ l.map (·.1) := by
  intro q
  obtain ⟨r, hr, N⟩ := D.nw
  rw [← hr.keys] at q
  obtain ⟨p, hp, rfl⟩ := List.mem_map.mp q
  exact absurd (Heap.lt_size (N p hp).1) (Nat.not_lt.mpr ha)
theorem LD.alloc (D : LD c g L m h l) {o : Obj} {x : AObj} (hx : x.Is c o) (hf : o.isFreed = false) : LD c g L m (h.push o) ((h.objs.size, x) :: l) := by
  obtain ⟨r, hr, N⟩ := D.nw
  exact ⟨D.fr.push o, List.nodup_cons.mpr ⟨D.new (Nat.le_refl _), D.nd⟩, _, .cons hx hr, N.push D.fr o hf⟩
end
end Mine
namespace Mine
structure Loc (ls : List (Str × Option AV)) (m : Str → Option Value) : Prop where
  nd : (ls.map (·.1)).Nodup
  at_ : ∀ x av, (x, some av) ∈ ls → ∃ v, m x = some v ∧ av.is v
inductive UpdL (x : Str) (v : AV) : List (Str × Option AV) → List (Str × Option AV) → Prop
  | head {o r} : UpdL x v ((x, o) :: r) ((x, some v) :: r)
  | tail {p r r'} : UpdL x v r r' → UpdL x v (p :: r) (p :: r')
theorem UpdL.keys {x : Str} {v : AV} {l l' : List (Str × Option AV)} (u : UpdL x v l l') : l'.map (·.1) = l.map (·.1) := by
  induction u with
  | head => rfl
  | tail _ ih => rw [List.map_cons, List.map_cons, ih]
theorem UpdL.memKey {x : Str} {v : AV} {l l' : List (Str × Option AV)} (u : UpdL x v l l') : x ∈ l.map (·.1) := by
  induction u with
  | head => exact .head _
  | tail _ ih => exact .tail _ ih
theorem UpdL.mem {x : Str} {v : AV} {l l' : List (Str × Option AV)} (u : UpdL x v l l') (nd : (l.map (·.1)).Nodup) {p : Str × Option AV} (hp : p ∈ l') : p = (x, some v) ∨ (p ∈ l ∧ p.1 ≠ x) := by
  induction u with
  | head =>
    rw [List.map_cons, List.nodup_cons] at nd
    rcases List.mem_cons.mp hp with rfl | hp
    · exact .inl rfl
    · exact .inr ⟨.tail _ hp, fun e => nd.1 (List.mem_map.mpr ⟨p, hp, e⟩)⟩
  | tail u ih =>
    rw [List.map_cons, List.nodup_cons] at nd
    rcases List.mem_cons.mp hp with rfl | hp
    · exact .inr ⟨.head _, fun e => nd.1 (e ▸ u.memKey)⟩
    · rcases ih nd.2 hp with h | ⟨h, k⟩
      · exact .inl h
      · exact .inr ⟨.tail _ h, k⟩
theorem Loc.store {ls ls' : List (Str × Option AV)} {m : Str → Option Value} {x : Str} {av : AV} {v : Value} (l : Loc ls m) (u : UpdL x av ls ls') (hv : av.is v) : Loc ls' (fun y => if y = x then some v else m y) := by
  refine ⟨u.keys ▸ l.nd, fun y w hm => ?_⟩
  rcases u.mem l.nd hm with e | ⟨h, k⟩
  · cases e; exact ⟨v, if_pos rfl, hv⟩
  · obtain ⟨v', h1, h2⟩ := l.at_ y w h
    exact ⟨v', by rw [if_neg k]; exact h1, h2⟩
structure ST (c : Cx) (g : Heap) (L : Addr) (m : Str → Option Value) (ls : List (Str × Option AV)) (h : Heap) (l : List (Addr × AObj)) : Prop where
  lo : Loc ls m
  ld : LD c g L m h l
structure FO (K : Frag) (c : Cx) (A : Around) (env : Env) (nm : List (Str × NameKind)) (L : Addr) (cl : List (Str × Addr)) (g : Heap) (n : Nat) : Prop where
  X : K.In g
  T : ∃ p loose mean mg mb, Top p loose mean mg mb g
  B : ∃ A₀ base outer, Below A₀ base outer g ∧ A.frames = some (env :: outer)
  env_ : ∃ cn cs a ccd, env = envX cn cs L a ccd cl ∧ cs.names = nm ∧ cs.kind = .function
  nms : (nm.map (·.1)).Nodup
  cnd : (cl.map (·.1)).Nodup
  dp : A.depth + n ≤ 900
  un : A.units + 100 * n ≤ 9000
  hh : A.handled = none
  sm : ∃ o, g.get? sysModules = some o
theorem lookup_of_mem {β : Type} {l : List (Str × β)} {x : Str} {b : β} (nd : (l.map (·.1)).Nodup) (hm : (x, b) ∈ l) : l.lookup x = some b := by
  induction l with
  | nil => cases hm
  | cons p l ih =>
    obtain ⟨y, b'⟩ := p
    rw [List.map_cons, List.nodup_cons] at nd
    rw [List.lookup_cons]
    rcases List.mem_cons.mp hm with e | hm
    · cases e; simp
    · have : x ≠ y := fun e => nd.1 (e ▸ List.mem_map_of_mem (f := (·.1)) hm)
      have q : (x == y) = false := beq_eq_false_iff_ne.mpr this
      rw [q]
      exact ih nd.2 hm
section
variable {K : Frag} {c : Cx} {A : Around} {env : Env} {nm : List (Str × NameKind)} {L : Addr} {cl : List (Str × Addr)} {g h : Heap} {n : Nat} {m : Str → Option Value} {ls ls' : List (Str × Option AV)} {l l' : List (Addr × AObj)}
noncomputable def Kn (c : Cx) (A : Around) (env : Env) (rest : List Stmt) (Q : Flow → Heap → Prop) : Flow → Heap → Prop
  | .next, h' => W c A (execs rest env) h' Q
  | f, h' => Q f h'
theorem execs_nil {env : Env} {Q : Flow → Heap → Prop} (q : Q .next h) : W c A (execs [] env) h Q := fun tk => wpAny_execs_nil ⟨h, tk, rfl, q⟩
theorem execs_cons {env : Env} {st : Stmt} {rest : List Stmt} {Q : Flow → Heap → Prop} (x : W c A (exec st env) h (Kn c A env rest Q)) : W c A (execs (st :: rest) env) h Q :=
  fun tk => wpAny_execs_cons (x.use fun f h' tk' q => by cases f <;> first | exact q tk' | exact ⟨_, _, rfl, q⟩)
theorem x_assign {env : Env} {x : Str} {p pos : Pos} {e : Expr} {Q : Flow → Heap → Prop} (k : W c A (eval e env) h (fun v h₁ => W c A (storeName env x v) h₁ (fun _ h₂ => Q .next h₂)))
    (hs : swapsWith e (some (.Name x p)) pos.line env = pure false) : W c A (exec (.Assign [.Name x p] e pos) env) h Q :=
  fun tk => wpAny_Assign_Name (k.use fun v h' tk' q => q.use fun _ h'' tk'' q' => ⟨_, _, rfl, q'⟩) hs
theorem x_attr {env : Env} {o e : Expr} {x : Str} {p pos : Pos} {Q : Flow → Heap → Prop} (k : W c A (eval e env) h (fun v h₁ => W c A (eval o env) h₁ (fun ov h₂ => W c A (setAttr ov x v) h₂ (fun _ h₃ => Q .next h₃))))
    (hs : swapsWith e (some (.Attribute o x p)) pos.line env = pure false) : W c A (exec (.Assign [.Attribute o x p] e pos) env) h Q :=
  fun tk => plainObj_wpAny_Assign_Attribute (k.use fun v h' tk' q => q.use fun _ h'' tk'' q' => q'.use fun _ h3 tk3 q3 => ⟨_, _, rfl, q3⟩) hs
theorem x_item {env : Env} {o i e : Expr} {p pos : Pos} {Q : Flow → Heap → Prop}
    (k : W c A (eval e env) h (fun v h₁ => W c A (eval o env) h₁ (fun ov h₂ => W c A (eval i env) h₂ (fun iv h₃ => W c A (setItem ov iv v) h₃ (fun _ h₄ => Q .next h₄)))))
    (hs : swapsWith e (some (.Subscript o i p)) pos.line env = pure false) : W c A (exec (.Assign [.Subscript o i p] e pos) env) h Q :=
  fun tk => wpAny_Assign_Subscript (k.use fun v h' tk' q => q.use fun _ h'' tk'' q' => q'.use fun _ h3 tk3 q3 => q3.use fun _ h4 tk4 q4 => ⟨_, _, rfl, q4⟩) hs
theorem x_if {env : Env} {t : Expr} {body orelse : List Stmt} {pos : Pos} {Q : Flow → Heap → Prop}
    (k : W c A (isTrue t env (eval t env)) h (fun b h₁ => if b then W c A (execs body env) h₁ Q else W c A (execs orelse env) h₁ Q)) : W c A (exec (.If t body orelse pos) env) h Q :=
  fun tk => wpAny_If (k.use fun b h' tk' q => by cases b <;> exact q tk')
theorem x_expr {e : Expr} {pos : Pos} {Q : Flow → Heap → Prop} (f : FO K c A env nm L cl g n) (k : W c A (eval e env) h (fun _ h₁ => Q .next h₁))
    (hs : swapsWith e none pos.line env = pure false) : W c A (exec (.Expr e pos) env) h Q := fun tk => by
  obtain ⟨cn, cs, a, ccd, rfl, rfl, hkd⟩ := f.env_
  exact wpAny_Expr_any (k.use fun _ h' tk' q => ⟨_, _, rfl, q⟩) (by unfold interactive; show (cs.kind == .module && _) = false; rw [hkd]; rfl) hs
theorem n_loc {x : Str} {pos : Pos} {av : AV} {Q : Value → Heap → Prop} (f : FO K c A env nm L cl g n) (D : ST c g L m ls h l) (hk : (x, .local) ∈ nm) (hm : (x, some av) ∈ ls) (q : av.All fun v => Q v h)
    (hd : (x == ("__debug__" : Str)) = false) : W c A (eval (.Name x pos) env) h Q := fun tk => by
  obtain ⟨cn, cs, a, ccd, rfl, rfl, hkd⟩ := f.env_
  have lo := D.lo; have d := D.ld
  obtain ⟨v, hv, hav⟩ := lo.at_ x av hm
  exact nameX_L d.fr hv ⟨_, _, rfl, q v hav⟩ hkd (lookup_of_mem f.nms hk) hd
theorem n_cell {x : Str} {pos : Pos} {ca : Addr} {av : AV} {Q : Value → Heap → Prop} (f : FO K c A env nm L cl g n) (D : ST c g L m ls h l) (hk : (x, .cell) ∈ nm) (hc : (x, ca) ∈ cl) (hm : (ca, .cell (some av)) ∈ l) (q : av.All fun v => Q v h)
    (hd : (x == ("__debug__" : Str)) = false) : W c A (eval (.Name x pos) env) h Q := fun tk => by
  obtain ⟨cn, cs, a, ccd, rfl, rfl, hkd⟩ := f.env_
  have lo := D.lo; have d := D.ld
  obtain ⟨r, hr, N⟩ := d.nw
  obtain ⟨o, h1, v, h2, h3⟩ := hr.mem hm
  exact nameX_C N (lookup_of_mem f.cnd hc) h1 h2 ⟨_, _, rfl, q v h3⟩ hkd (lookup_of_mem f.nms hk) hd
theorem n_free {x : Str} {pos : Pos} {ca : Addr} {av : AV} {Q : Value → Heap → Prop} (f : FO K c A env nm L cl g n) (D : ST c g L m ls h l) (hk : (x, .free) ∈ nm) (hc : (x, ca) ∈ cl) (hm : (ca, .cell (some av)) ∈ l) (q : av.All fun v => Q v h)
    (hd : (x == ("__debug__" : Str)) = false) (hn : (x == ("__classdict__" : Str)) = false) : W c A (eval (.Name x pos) env) h Q := fun tk => by
  obtain ⟨cn, cs, a, ccd, rfl, rfl, hkd⟩ := f.env_
  have lo := D.lo; have d := D.ld
  obtain ⟨r, hr, N⟩ := d.nw
  obtain ⟨o, h1, v, h2, h3⟩ := hr.mem hm
  exact nameX_F N (lookup_of_mem f.cnd hc) h1 h2 ⟨_, _, rfl, q v h3⟩ hkd (lookup_of_mem f.nms hk) hd hn
theorem n_glob {x : Str} {pos : Pos} {v : Value} {Q : Value → Heap → Prop} (f : FO K c A env nm L cl g n) (D : ST c g L m ls h l) (hk : (x, .globalImplicit) ∈ nm) (e : nsIn K mainGlobals x = some (some v)) (q : Q v h)
    (hd : (x == ("__debug__" : Str)) = false) : W c A (eval (.Name x pos) env) h Q := fun tk => by
  obtain ⟨cn, cs, a, ccd, rfl, rfl, hkd⟩ := f.env_
  have lo := D.lo; have d := D.ld
  obtain ⟨p, loose, mean, mg, mb, T⟩ := f.T
  exact nameX_K d.fr f.X (topRead_of T) e ⟨_, _, rfl, q⟩ hkd (lookup_of_mem f.nms hk) hd
theorem n_blt {x : Str} {pos : Pos} {v : Value} {Q : Value → Heap → Prop} (f : FO K c A env nm L cl g n) (D : ST c g L m ls h l) (hk : (x, .globalImplicit) ∈ nm) (e : nsIn K mainGlobals x = some none) (hv : bootBuiltins x = some v) (q : Q v h)
    (hn : x ≠ "__name__") (hd : (x == ("__debug__" : Str)) = false) : W c A (eval (.Name x pos) env) h Q := fun tk => by
  obtain ⟨cn, cs, a, ccd, rfl, rfl, hkd⟩ := f.env_
  have lo := D.lo; have d := D.ld
  obtain ⟨p, loose, mean, mg, mb, T⟩ := f.T
  exact nameX_B d.fr f.X (topRead_of T) e hv hn ⟨_, _, rfl, q⟩ hkd (lookup_of_mem f.nms hk) hd
theorem st_loc {x : Str} {av : AV} {v : Value} {Q : Unit → Heap → Prop} (f : FO K c A env nm L cl g n) (D : ST c g L m ls h l) (hk : (x, .local) ∈ nm) (u : UpdL x av ls ls') (hv : av.is v)
    (q : ∀ h' m', ST c g L m' ls' h' l → Q () h') : W c A (storeName env x v) h Q := fun tk => by
  obtain ⟨cn, cs, a, ccd, rfl, rfl, hkd⟩ := f.env_
  have lo := D.lo; have d := D.ld
  obtain ⟨r, hr, N⟩ := d.nw
  exact storeX_L d.fr N (fun h' F' N' => ⟨_, _, rfl, q h' _ ⟨lo.store u hv, F', d.nd, r, hr, N'⟩⟩) hkd (lookup_of_mem f.nms hk)
theorem l_int {i : Int} {k : Nat} {pos : Pos} {env : Env} {Q : Value → Heap → Prop} (q : ∀ t, Q (.int i t) h) : W c A (eval (.Constant (.int i) k pos) env) h Q := fun tk => wpAny_Constant_int ⟨_, _, rfl, q tk⟩
theorem l_str {i : Str} {k : Nat} {pos : Pos} {env : Env} {Q : Value → Heap → Prop} (q : ∀ t, Q (.str i t) h) : W c A (eval (.Constant (.str i) k pos) env) h Q := fun tk => Constant_str ⟨_, _, rfl, q tk⟩
theorem l_none {k : Nat} {pos : Pos} {env : Env} {Q : Value → Heap → Prop} (q : Q .none h) : W c A (eval (.Constant .none k pos) env) h Q := fun tk => wpAny_Constant_none ⟨_, _, rfl, q⟩
theorem l_bool {b : Bool} {k : Nat} {pos : Pos} {env : Env} {Q : Value → Heap → Prop} (q : Q (.bool b) h) : W c A (eval (.Constant (.bool b) k pos) env) h Q := fun tk => Constant_bool ⟨_, _, rfl, q⟩
theorem e_call {env : Env} {f : Expr} {args : List Expr} {pos : Pos} {Q : Value → Heap → Prop} (k : W c A (eval f env) h (fun fv h₁ => W c A (callWith pos fv [] (backTo pos (starEach args env)) []) h₁ Q))
    (he : eval (.Call f args [] pos) env = (do callWith pos (← eval f env) [] (backTo pos (starEach args env)) (backToKw pos (keywordEach [] env)))) : W c A (eval (.Call f args [] pos) env) h Q :=
  fun tk => Call_ (k.use fun v h' tk' q => q tk') he
theorem e_mcall {env : Env} {o : Expr} {x : Str} {args : List Expr} {ap pos : Pos} {pl : Sem Bool} {Q : Value → Heap → Prop}
    (k : W c A (eval o env) h (fun ov h₁ => W c A (getMethod ov x pl) h₁ (fun fx h₂ => W c A (callWith pos fx.1 fx.2 (backTo pos (starEach args env)) []) h₂ Q)))
    (he : eval (.Call (.Attribute o x ap) args [] pos) env = (do
      let ov ← eval o env
      standAt ap.atName
      let (f, first) ← holding [ov] (getMethod ov x pl)
      callWith pos f first (backTo pos (starEach args env)) [])) : W c A (eval (.Call (.Attribute o x ap) args [] pos) env) h Q :=
  fun tk => MethodCall_ (k.use fun v h' tk' q => q.use fun fx h2 tk2 q2 => q2 tk2) he
theorem e_attrN {env : Env} {x y : Str} {xp pos : Pos} {Q : Value → Heap → Prop} (k : W c A (eval (.Name x xp) env) h (fun ov h₁ => W c A (getAttr ov y true) h₁ Q)) : W c A (eval (.Attribute (.Name x xp) y pos) env) h Q :=
  fun tk => Attribute_Name_ (k.use fun v h' tk' q => q tk')
theorem e_attr {env : Env} {e : Expr} {y : Str} {pos : Pos} {Q : Value → Heap → Prop} (k : W c A (eval e env) h (fun ov h₁ => W c A (getAttr ov y true) h₁ Q))
    (he : eval (.Attribute e y pos) env = (do
      let o ← eval e env
      standAt pos.atName
      let r ← holding [o] (getAttr o y true)
      letTemporaryGo e o r
      pure r)) : W c A (eval (.Attribute e y pos) env) h Q :=
  fun tk => Attribute_any_ (k.use fun v h' tk' q => q tk') he
theorem e_sub {env : Env} {e i : Expr} {pos : Pos} {Q : Value → Heap → Prop} (k : W c A (eval e env) h (fun ov h₁ => W c A (eval i env) h₁ (fun iv h₂ => W c A (subscriptTail e i ov iv) h₂ Q))) : W c A (eval (.Subscript e i pos) env) h Q :=
  fun tk => Subscript_ (k.use fun v h' tk' q => q.use fun v2 h2 tk2 q2 => q2 tk2)
theorem e_cmp {env : Env} {e r : Expr} {op : CmpOp} {pos : Pos} {Q : Value → Heap → Prop} (k : W c A (eval e env) h (fun a h₁ => W c A (eval r env) h₁ (fun b h₂ => W c A (compareOp op a b) h₂ Q)))
    (hm : behindInMarks op r = false) : W c A (eval (.Compare e [op] [r] pos) env) h Q :=
  fun tk => wpAny_Compare1 (k.use fun v h' tk' q => q.use fun v2 h2 tk2 q2 => q2 tk2) hm
theorem e_bin {env : Env} {e r : Expr} {op : Operator} {pos : Pos} {Q : Value → Heap → Prop} (k : W c A (eval e env) h (fun a h₁ => W c A (eval r env) h₁ (fun b h₂ => W c A (binaryOp op a b) h₂ Q))) : W c A (eval (.BinOp e op r pos) env) h Q :=
  fun tk => wpAny_BinOp (k.use fun v h' tk' q => q.use fun v2 h2 tk2 q2 => q2 tk2)
theorem e_ifexp {env : Env} {t b e : Expr} {pos : Pos} {Q : Value → Heap → Prop} (k : W c A (isTrue t env (eval t env)) h (fun x h₁ => if x then W c A (eval b env) h₁ Q else W c A (eval e env) h₁ Q)) : W c A (eval (.IfExp t b e pos) env) h Q :=
  fun tk => IfExp_ (k.use fun b h' tk' q => by cases b <;> exact q tk')
theorem e_list {env : Env} {es : List Expr} {pos : Pos} {Q : Value → Heap → Prop} (k : W c A (spliced (backTo pos (starEach es env))) h (fun vs h₁ => W c A (newList vs) h₁ Q)) : W c A (eval (.List es pos) env) h Q :=
  fun tk => List_ (k.use fun v h' tk' q => q tk')
theorem e_tup {env : Env} {es : List Expr} {k : Nat} {pos : Pos} {Q : Value → Heap → Prop} (x : W c A (spliced (backTo pos (starEach es env))) h (fun vs h₁ => W c A (newTuple vs) h₁ Q)) : W c A (eval (.Tuple es k pos) env) h Q :=
  fun tk => Tuple_ (x.use fun v h' tk' q => q tk')
theorem sp_nil {env : Env} {pos : Pos} {Q : List Value → Heap → Prop} (q : Q [] h) : W c A (spliced (backTo pos (starEach [] env))) h Q := fun tk => spliced_none ⟨_, _, rfl, q⟩
theorem sp_cons {env : Env} {e : Expr} {rest : List Expr} {pos : Pos} {Q : List Value → Heap → Prop} (k : W c A (eval e env) h (fun v h₁ => W c A (spliced (backTo pos (starEach rest env))) h₁ (fun vs h₂ => Q (v :: vs) h₂)))
    (he : starEach (e :: rest) env = (false, eval e env) :: starEach rest env) : W c A (spliced (backTo pos (starEach (e :: rest) env))) h Q :=
  fun tk => spliced_more (k.use fun v h' tk' q => q.use fun vs h2 tk2 q2 => ⟨_, _, rfl, q2⟩) he
theorem t_cmp {env : Env} {e r : Expr} {op : CmpOp} {pos : Pos} {whole : Sem Value} {Q : Bool → Heap → Prop} (k : W c A (eval e env) h (fun a h₁ => W c A (eval r env) h₁ (fun b h₂ => W c A (compareOp op a b) h₂ (fun v h₃ => W c A (truthy v) h₃ Q))))
    (hm : behindInMarks op r = false) : W c A (isTrue (.Compare e [op] [r] pos) env whole) h Q :=
  fun tk => wpAny_isTrue_Compare1 (k.use fun v h' tk' q => q.use fun v2 h2 tk2 q2 => q2.use fun v3 h3 tk3 q3 => q3 tk3) hm
theorem t_plain {env : Env} {e : Expr} {whole : Sem Value} {Q : Bool → Heap → Prop} (k : W c A whole h (fun v h₁ => W c A (truthy v) h₁ Q))
    (he : isTrue e env whole = (do let v ← whole; standAt e.pos; holding [v] (truthy v))) : W c A (isTrue e env whole) h Q :=
  fun tk => isTrue_plain (k.use fun v h' tk' q => q tk') he
theorem tr_bool {b : Bool} {Q : Bool → Heap → Prop} (q : Q b h) : W c A (truthy (.bool b)) h Q := fun tk => wpAny_truthy_bool ⟨_, _, rfl, q⟩
theorem cw_K {f : Value} {first : List Value} {e : Expr} {rest : List Expr} {env : Env} {pos : Pos} {Q : Value → Heap → Prop} (hk : keepIn K f = true) 
    (k : W c A (spliced (backTo pos (starEach (e :: rest) env))) h (fun vs h₁ => K.In h₁ ∧ W c A (call f (first ++ vs)) h₁ Q)) (X : K.In g)
    (he : starEach (e :: rest) env = (false, eval e env) :: starEach rest env) (hplain : (backTo pos (starEach rest env)).any (·.1) = false) :
    W c A (callWith pos f first (backTo pos (starEach (e :: rest) env)) []) h Q :=
  fun tk => callWith_K X hk (k.use fun v h' tk' q => ⟨q.1, q.2 tk'⟩) he hplain
theorem cw_K0 {f : Value} {first : List Value} {env : Env} {pos : Pos} {Q : Value → Heap → Prop} (X : K.In h) (hk : keepIn K f = true) (k : W c A (call f (first ++ [])) h Q) :
    W c A (callWith pos f first (backTo pos (starEach [] env)) []) h Q := fun tk => callWith_K0 (s := ⟨h, c.g, c.d, tk, c.o⟩) X hk (k tk)
theorem cw_b0 {id : String} {first : List Value} {env : Env} {pos : Pos} {Q : Value → Heap → Prop} (k : W c A (call (.builtin id) first) h Q) :
    W c A (callWith pos (.builtin id) first (backTo pos (starEach [] env)) []) h Q := fun tk => callWith_method0 (k tk)
theorem cw_b1 {id : String} {first : List Value} {e : Expr} {rest : List Expr} {env : Env} {pos : Pos} {Q : Value → Heap → Prop} (k : W c A (spliced (backTo pos (starEach (e :: rest) env))) h (fun vs h₁ => W c A (call (.builtin id) (first ++ vs)) h₁ Q))
    (he : starEach (e :: rest) env = (false, eval e env) :: starEach rest env) (hplain : (backTo pos (starEach rest env)).any (·.1) = false) :
    W c A (callWith pos (.builtin id) first (backTo pos (starEach (e :: rest) env)) []) h Q := fun tk => callWith_method1 (k.use fun v h' tk' q => q tk') he hplain
theorem ST.inK (D : ST c g L m ls h l) (X : K.In g) : K.In h := by
  have lo := D.lo; have d := D.ld
  exact X.keeps d.fr.keep
end
end Mine
namespace Mine
theorem Flds.find {fs : List (Str × AV)} {es : List DictEntry} (h : Flds fs es) (nd : (fs.map (·.1)).Nodup) {y : Str} {av : AV} (hm : (y, av) ∈ fs) : ∃ v, getL y es = some (some v) ∧ av.is v := by
  have key : ∃ v, (∃ e, es.find? (·.key.isStr y) = some e ∧ e.val = v) ∧ av.is v := by
    induction h with
    | nil => cases hm
    | @cons k x fs hsh t v es hx hr ih =>
      rw [List.map_cons, List.nodup_cons] at nd
      rcases List.mem_cons.mp hm with e | hm
      · cases e
        exact ⟨v, ⟨⟨hsh, .str y t, v⟩, List.find?_cons_of_pos (by simp [Value.isStr]), rfl⟩, hx⟩
      · have : k ≠ y := fun e => nd.1 (e ▸ List.mem_map_of_mem (f := (·.1)) hm)
        obtain ⟨v', ⟨e, h1, h2⟩, h3⟩ := ih nd.2 hm
        exact ⟨v', ⟨e, (List.find?_cons_of_neg (by simp [Value.isStr, this])).trans h1, h2⟩, h3⟩
  obtain ⟨v, ⟨e, h1, h2⟩, h3⟩ := key
  refine ⟨v, ?_, h3⟩
  unfold getL
  rw [h1, ← h2]
theorem Flds.refKeys {fs : List (Str × AV)} {es : List DictEntry} (h : Flds fs es) : es.any (·.refKey) = false := by
  induction h with
  | nil => rfl
  | cons _ _ ih => rw [List.any_cons, ih]; rfl
theorem Flds.miss {fs : List (Str × AV)} {es : List DictEntry} (h : Flds fs es) {y : Str} (hm : y ∉ fs.map (·.1)) : getL y es = some none := by
  have key : es.find? (·.key.isStr y) = none := by
    induction h with
    | nil => rfl
    | @cons k x fs hsh t v es hx hr ih =>
      rw [List.map_cons, List.mem_cons, not_or] at hm
      have : k ≠ y := fun e => hm.1 e.symm
      exact (List.find?_cons_of_neg (by simp [Value.isStr, this])).trans (ih hm.2)
  unfold getL
  rw [key]
  simp [h.refKeys]
inductive UpdF (y : Str) (x' : AV) : List (Str × AV) → List (Str × AV) → Prop
  | head {x r} : UpdF y x' ((y, x) :: r) ((y, x') :: r)
  | tail {p r r'} : UpdF y x' r r' → UpdF y x' (p :: r) (p :: r')
theorem UpdF.keys {y : Str} {x' : AV} {l l' : List (Str × AV)} (u : UpdF y x' l l') : l'.map (·.1) = l.map (·.1) := by
  induction u with
  | head => rfl
  | tail _ ih => rw [List.map_cons, List.map_cons, ih]
theorem UpdF.memKey {y : Str} {x' : AV} {l l' : List (Str × AV)} (u : UpdF y x' l l') : y ∈ l.map (·.1) := by
  induction u with
  | head => exact .head _
  | tail _ ih => exact .tail _ ih
theorem Flds.put {fs fs' : List (Str × AV)} {es : List DictEntry} (h : Flds fs es) (nd : (fs.map (·.1)).Nodup) {y : Str} {x' : AV} (u : UpdF y x' fs fs') {v : Value} (hv : x'.is v) (hsh : Int) (t : Tok) :
    Flds fs' (putL y hsh (.str y t) v es) := by
  induction u generalizing es with
  | head =>
    cases h with
    | cons hx hr =>
      unfold putL
      simp only [Value.isStr, beq_self_eq_true, if_true]
      exact .cons hv hr
  | @tail p r r' u ih =>
    rw [List.map_cons, List.nodup_cons] at nd
    cases h with
    | @cons k x fs hsh' t' v' es hx hr =>
      have : k ≠ y := fun e => nd.1 (e ▸ u.memKey)
      unfold putL
      simp only [Value.isStr, beq_eq_false_iff_ne.mpr this, Bool.false_eq_true, if_false]
      exact .cons hx (ih hr nd.2)
theorem Flds.add {fs : List (Str × AV)} {es : List DictEntry} (h : Flds fs es) {y : Str} {x' : AV} (hy : y ∉ fs.map (·.1)) {v : Value} (hv : x'.is v) (hsh : Int) (t : Tok) :
    Flds (fs ++ [(y, x')]) (putL y hsh (.str y t) v es) := by
  induction h with
  | nil => exact .cons hv .nil
  | @cons k x fs hsh' t' v' es hx hr ih =>
    rw [List.map_cons, List.mem_cons, not_or] at hy
    have : k ≠ y := fun e => hy.1 e.symm
    unfold putL
    simp only [Value.isStr, beq_eq_false_iff_ne.mpr this, Bool.false_eq_true, if_false]
    exact .cons hx (ih hy.2)
theorem Flds.length {fs : List (Str × AV)} {es : List DictEntry} (h : Flds fs es) : fs.length = es.length := by
  induction h with
  | nil => rfl
  | cons _ _ ih => rw [List.length_cons, List.length_cons, ih]
theorem UpdF.length {y : Str} {x' : AV} {l l' : List (Str × AV)} (u : UpdF y x' l l') : l'.length = l.length := by
  have := congrArg List.length u.keys
  simpa using this
noncomputable def fieldOk (K : Frag) (C : Addr) (y : Str) : Bool :=
  plainGet K C y && hasDictIn K C && (findIn K (.ref C) y == some none) && (findIn K (.ref C) "__setattr__" == some (some (.builtin "object.__setattr__"))) && plainOver K C && (takerIn K C y == some none)
noncomputable def methOk (K : Frag) (C : Addr) (y : Str) (fa : Addr) : Bool :=
  plainGet K C y && (findIn K (.ref C) y == some (some (.ref fa))) && isFn K (.ref fa) && keepIn K (.ref fa)
section
variable {K : Frag} {c : Cx} {A : Around} {env : Env} {nm : List (Str × NameKind)} {L : Addr} {cl : List (Str × Addr)} {g h : Heap} {n : Nat} {m : Str → Option Value} {ls ls' : List (Str × Option AV)} {l l' : List (Addr × AObj)}
theorem field_get {C : Addr} {y : Str} (e : fieldOk K C y = true) : plainGet K C y = true ∧ hasDictIn K C = true ∧ findIn K (.ref C) y = some none ∧ findIn K (.ref C) "__setattr__" = some (some (.builtin "object.__setattr__")) ∧ plainOver K C = true ∧ takerIn K C y = some none := by
  unfold fieldOk at e
  simp only [Bool.and_eq_true, beq_iff_eq] at e
  obtain ⟨⟨⟨⟨⟨a, b⟩, c⟩, d⟩, e⟩, f⟩ := e
  exact ⟨a, b, c, d, e, f⟩
theorem meth_get {C fa : Addr} {y : Str} (e : methOk K C y fa = true) : plainGet K C y = true ∧ findIn K (.ref C) y = some (some (.ref fa)) ∧ isFn K (.ref fa) = true ∧ keepIn K (.ref fa) = true := by
  unfold methOk at e
  simp only [Bool.and_eq_true, beq_iff_eq] at e
  obtain ⟨⟨⟨a, b⟩, c⟩, d⟩ := e
  exact ⟨a, b, c, d⟩
theorem inst_at {x C dx : Addr} {fs : List (Str × AV)} {m : Str → Option Value} (D : LD c g L m h l) (hi : (x, .inst C dx) ∈ l) (hd : (dx, .attrs fs) ∈ l) :
    ∃ es n, InstAt h x (instObj C dx) C (some (dictOf es n)) ∧ Flds fs es ∧ (fs.map (·.1)).Nodup := by
  obtain ⟨o, h1, h2⟩ := D.at hi
  obtain ⟨o', h3, es, n, h4, h5, h6, _⟩ := D.at hd
  cases h2
  subst h4
  exact ⟨es, n, ⟨h1, rfl, rfl, h3⟩, h5, h6⟩
theorem g_attr {x C dx : Addr} {fs : List (Str × AV)} {y : Str} {av : AV} {b : Bool} {Q : Value → Heap → Prop} (X : K.In g) (D : ST c g L m ls h l) (hi : (x, .inst C dx) ∈ l) (hd : (dx, .attrs fs) ∈ l) (hm : (y, av) ∈ fs)
    (ho : fieldOk K C y = true) (q : av.All fun v => Q v h) : W c A (getAttr (.ref x) y b) h Q := fun tk => by
  have lo := D.lo; have d := D.ld
  obtain ⟨es, n, I, F, nd⟩ := inst_at d hi hd
  obtain ⟨v, h1, h2⟩ := F.find nd hm
  obtain ⟨a1, a2, a3, _⟩ := field_get ho
  exact get_own (s := ⟨h, c.g, c.d, tk, c.o⟩) d.fr X I a1 a2 a3 rfl h1 (AV.handed h2) ⟨_, _, rfl, q v h2⟩
theorem g_meth {x C dx fa : Addr} {fs : List (Str × AV)} {y : Str} {pl : Sem Bool} {Q : Value × List Value → Heap → Prop} (X : K.In g) (D : ST c g L m ls h l) (hi : (x, .inst C dx) ∈ l) (hd : (dx, .attrs fs) ∈ l) (ho : methOk K C y fa = true)
    (hm : y ∉ fs.map (·.1)) (q : Q (.ref fa, [.ref x]) h) : W c A (getMethod (.ref x) y pl) h Q := fun tk => by
  have lo := D.lo; have d := D.ld
  obtain ⟨es, n, I, F, nd⟩ := inst_at d hi hd
  obtain ⟨a1, a2, a3, _⟩ := meth_get ho
  exact method_inst (s := ⟨h, c.g, c.d, tk, c.o⟩) d.fr X I a1 a2 a3 (F.miss hm) ⟨_, _, rfl, q⟩
theorem set_core {x C dx : Addr} {fs fs' : List (Str × AV)} {y : Str} {av : AV} {v : Value} {Q : Unit → Heap → Prop} (X : K.In g) (D : ST c g L m ls h l) (hi : (x, .inst C dx) ∈ l) (ho : fieldOk K C y = true) (hv : av.is v)
    (u : UpdA dx (.attrs fs) (.attrs fs') l l')
    (hp : ∀ es (hsh : Int) (t : Tok), Flds fs es → Flds fs' (putL y hsh (.str y t) v es)) (hl : (∃ av₀, (y, av₀) ∈ fs) ∨ y ∉ fs.map (·.1)) (nd' : (fs'.map (·.1)).Nodup) (hz : fs'.length ≤ 500)
    (q : ∀ h', ST c g L m ls h' l' → Q () h') : W c A (setAttr (.ref x) y v) h Q := fun tk => by
  have lo := D.lo; have d := D.ld
  obtain ⟨r, hr, N⟩ := d.nw
  obtain ⟨od, ⟨es, n, e1, F, nd, _⟩, hmem, up⟩ := u.led d.nd hr
  subst e1
  obtain ⟨oi, hmi, e2⟩ := hr.mem hi
  cases e2
  obtain ⟨a1, a2, a3, a4, a5, a6⟩ := field_get ho
  have I : InstAt h x (instObj C dx) C (some (dictOf es n)) := ⟨N.get hmi, rfl, rfl, N.get hmem⟩
  have F' := hp es (PyData.keyHash c.w.params y) (tk + 1) F
  obtain ⟨r', U, hr'⟩ := up (dictOf (putL y (PyData.keyHash c.w.params y) (.str y (tk + 1)) v es) (putN y es n)) ⟨_, _, rfl, F', nd', hz⟩
  refine set_dict (s := ⟨h, c.g, c.d, tk, c.o⟩) d.fr X N I rfl a4 a5 a6 a2 ?_ rfl U (by rw [← F'.length]; omega) fun h' G' N' => ⟨_, _, rfl, q h' ⟨lo, G', by rw [u.keys]; exact d.nd, r', hr', N'⟩⟩
  rcases hl with ⟨av₀, hm⟩ | hm
  · obtain ⟨v₀, h1, _⟩ := F.find nd hm; rw [h1]; rfl
  · rw [F.miss hm]; rfl
theorem UpdF.memOld {y : Str} {x' : AV} {l l' : List (Str × AV)} (u : UpdF y x' l l') : ∃ x, (y, x) ∈ l := by
  induction u with
  | head => exact ⟨_, .head _⟩
  | tail _ ih => obtain ⟨x, hx⟩ := ih; exact ⟨x, .tail _ hx⟩
theorem s_attr {x C dx : Addr} {fs fs' : List (Str × AV)} {y : Str} {av : AV} {v : Value} {Q : Unit → Heap → Prop} (X : K.In g) (D : ST c g L m ls h l) (hi : (x, .inst C dx) ∈ l) (ho : fieldOk K C y = true) (hv : av.is v)
    (uf : UpdF y av fs fs') (u : UpdA dx (.attrs fs) (.attrs fs') l l') (q : ∀ h', ST c g L m ls h' l' → Q () h') : W c A (setAttr (.ref x) y v) h Q := by
  have lo := D.lo; have d := D.ld
  obtain ⟨o, _, es, n, _, _, nd, hz⟩ := d.at u.memOld
  exact set_core X D hi ho hv u (fun es hsh t F => F.put nd uf hv hsh t) (.inl uf.memOld) (by rw [uf.keys]; exact nd) (by rw [uf.length]; exact hz) q
theorem s_attr_new {x C dx : Addr} {fs : List (Str × AV)} {y : Str} {av : AV} {v : Value} {Q : Unit → Heap → Prop} (X : K.In g) (D : ST c g L m ls h l) (hi : (x, .inst C dx) ∈ l) (ho : fieldOk K C y = true) (hv : av.is v)
    (hy : y ∉ fs.map (·.1)) (u : UpdA dx (.attrs fs) (.attrs (fs ++ [(y, av)])) l l') (hz : fs.length < 100) (q : ∀ h', ST c g L m ls h' l' → Q () h') : W c A (setAttr (.ref x) y v) h Q := by
  have lo := D.lo; have d := D.ld
  obtain ⟨o, _, es, n, _, _, nd, _⟩ := d.at u.memOld
  refine set_core X D hi ho hv u (fun es hsh t F => F.add hy hv hsh t) (.inr hy) ?_ (by rw [List.length_append]; simp; omega) q
  rw [List.map_append, List.nodup_append]
  refine ⟨nd, by simp, fun a ha b hb e => hy ?_⟩
  simp only [List.map_cons, List.map_nil, List.mem_singleton] at hb
  rw [← hb, ← e]; exact ha
noncomputable def retOf : Flow → Value
  | .ret v => v
  | _ => .none
theorem FO.push {n : Nat} {qual : Str} {sc : Scope} {L' fa : Addr} {cd : Value} {cl' : List (Str × Addr)} {g' : Heap} {base : Heap} {outer : List Env} (f : FO K c A env nm L cl g (n + 1)) (hA : A.frames = some (env :: outer))
    (B : Below A base (env :: outer) g') (st : g.StaysIn g') (hk : sc.kind = .function) (nd : (sc.names.map (·.1)).Nodup) (cd' : (cl'.map (·.1)).Nodup) :
    FO K c (A.deeper (envX qual sc L' fa cd cl')) (envX qual sc L' fa cd cl') sc.names L' cl' g' n := by
  obtain ⟨p, loose, mean, mg, mb, T⟩ := f.T
  refine ⟨f.X.keeps st, ⟨p, loose, mean, mg, mb, T.keeps st⟩, ⟨A, base, _, B, Around.frames_deeper hA⟩, ⟨_, _, _, _, rfl, rfl, hk⟩, nd, cd', ?_, ?_, f.hh, let ⟨o, q⟩ := f.sm; ⟨o, st _ _ q⟩⟩
  · have := f.dp; show A.depth + 1 + n ≤ 900; omega
  · have := f.un; show A.units + 3 + 100 * n ≤ 9000; omega
inductive LsAt (binds : List (Str × Value)) : List (Str × Option AV) → Prop
  | nil : LsAt binds []
  | nay {x r} : LsAt binds r → LsAt binds ((x, none) :: r)
  | yea {x v av r} : binds.reverse.lookup x = some v → AV.is av v → LsAt binds r → LsAt binds ((x, some av) :: r)
theorem LsAt.get {binds : List (Str × Value)} {ls : List (Str × Option AV)} (h : LsAt binds ls) {x : Str} {av : AV} (hm : (x, some av) ∈ ls) : ∃ v, binds.reverse.lookup x = some v ∧ av.is v := by
  induction h with
  | nil => cases hm
  | nay _ ih => cases hm with | tail _ hm => exact ih hm
  | yea a b _ ih =>
    cases hm with
    | head => exact ⟨_, a, b⟩
    | tail _ hm => exact ih hm
structure LsInit (names : List (Str × NameKind)) (binds : List (Str × Value)) (ls : List (Str × Option AV)) : Prop where
  sub : (ls.map (·.1)).Sublist (names.map (·.1))
  at_ : LsAt binds ls
theorem LsInit.loc {names : List (Str × NameKind)} {binds : List (Str × Value)} {ls : List (Str × Option AV)} (i : LsInit names binds ls) (nd : (names.map (·.1)).Nodup) : Loc ls (fun y => binds.reverse.lookup y) := ⟨nd.sublist i.sub, fun x av hm => i.at_.get hm⟩
noncomputable def Body (K : Frag) (c : Cx) (cl' : Addr → List (Str × Addr)) (nm' : List (Str × NameKind)) (body : List Stmt) (g : Heap) (L : Addr) (m : Str → Option Value) (ls : List (Str × Option AV)) (n : Nat) (ls₁ : List (Str × Option AV)) (l : List (Addr × AObj)) (Q : Value → Heap → Prop) : Prop :=
  ∀ A' env' g' L' h' m₁, FO K c A' env' nm' L' (cl' L') g' n → ST c g' L' m₁ ls₁ h' l →
    W c A' (execs body env') h' (fun fl h₂ => ∃ m₂ ls₂ l₂, ST c g' L' m₂ ls₂ h₂ l₂ ∧ (ST c g L m ls h₂ l₂ → Q (retOf fl) h₂))
theorem code_fn {R : Result → Shared → Prop} {name qual : Str} {params : Arguments} {body : List Stmt} {scope : Scope} {cl' : List (Str × Addr)} {dV kV doc pm cdv ct : Value} {an : Option Addr} {fo : Obj} {fa : Addr} {args : Args} {binds : List (Str × Value)} {ls₁ : List (Str × Option AV)} {tk : Nat}
    (f : FO K c A env nm L cl g (n + 1)) (D : ST c g L m ls h l) (ho : h.get? fa = some fo) (hd : fo.data = .func (fnX name qual params body scope cl' dV kV doc pm an cdv ct)) (hcd : h.CodeRec cdv qual)
    (hbind : BindsTo ⟨h, c.g, c.d, tk, c.o⟩ (fnX name qual params body scope cl' dV kV doc pm an cdv ct) args binds) (hloc : ∀ y ∈ binds, scope.names.lookup y.1 = some .local) (hls : LsInit scope.names binds ls₁) (hnm : (scope.names.map (·.1)).Nodup) (hcl : (cl'.map (·.1)).Nodup)
    (k : Body K c (fun _ => cl') scope.names body g L m ls n ls₁ l (fun v h₂ => ∀ tk', R (.ok (.ret v)) ⟨h₂, c.g, c.d, tk', c.o⟩))
    (hcell : ∀ x ∈ scope.names, x.2 ≠ .cell) (hco : scope.isCoroutine = false) (hgen : scope.isGenerator = false) (hk : scope.kind = .function) :
    codeAny (model c.prog c.w) A (.call (.ref fa) args) R ⟨h, c.g, c.d, tk, c.o⟩ := by
  have lo := D.lo; have d := D.ld
  obtain ⟨r, hr, N⟩ := d.nw
  obtain ⟨p, loose, mean, mg, mb, T⟩ := f.T
  obtain ⟨A₀, base, outer, B, hA⟩ := f.B
  obtain ⟨cn, cs, a, ccd, he, hn', hkd⟩ := f.env_
  refine callX_plain (s := ⟨h, c.g, c.d, tk, c.o⟩) B d.fr N T.nolimit hA (by rw [he]) (by rw [he]; exact hkd) ho hd hcd (by have := f.dp; unfold recursionLimit; omega) hbind hloc (fun g' L' h₁ FG F' N' B' st hlt => ?_) hcell hco hgen hk
  refine wpAny_mono (k _ _ g' L' h₁ _ (f.push hA B' st hk hnm hcl) ⟨hls.loc hnm, F', d.nd, r, hr, N'⟩ _) (fun fl s' ⟨h₂, tk₂, e, m₂, ls₂, l₂, D₂, q⟩ => ?_) fun _ _ x => x.elim
  subst e
  have lo₂ := D₂.lo; have d₂ := D₂.ld
  obtain ⟨r₂, hr₂, N₂⟩ := d₂.nw
  suffices z : LeaveK g L m g' R (retOf fl) ⟨h₂, c.g, c.d, tk₂, c.o⟩ by cases fl <;> exact z
  exact ⟨_, _, _, d₂.fr, N₂, fun F'' N'' => q ⟨lo, F'', d₂.nd, r₂, hr₂, N''⟩ tk₂⟩
theorem call_top {Q : Value → Heap → Prop} {name qual : Str} {params : Arguments} {body : List Stmt} {scope : Scope} {dV kV doc pm cdv ct oc : Value} {an od : Option Addr} {osl : Array (Option Value)} {fa : Addr} {pos : List Value} {kw : List (Str × Value)} {binds : List (Str × Value)} {ls₁ : List (Str × Option AV)}
    (f : FO K c A env nm L cl g (n + 1)) (D : ST c g L m ls h l) (ho : K.lookup fa = some ⟨oc, od, .func (fnOf name qual params body scope dV kV doc pm an cdv ct), osl⟩) (hcd : codeIn K cdv qual = true)
    (hbind : ∀ tk, K.In h → BindsTo ⟨h, c.g, c.d, tk, c.o⟩ (fnOf name qual params body scope dV kV doc pm an cdv ct) ⟨pos, kw⟩ binds) (hloc : ∀ y ∈ binds, scope.names.lookup y.1 = some .local) (hls : LsInit scope.names binds ls₁) (hnm : (scope.names.map (·.1)).Nodup)
    (hcell : ∀ x ∈ scope.names, x.2 ≠ .cell)
    (k : Body K c (fun _ => []) scope.names body g L m ls n ls₁ l Q)
    (hco : scope.isCoroutine = false) (hgen : scope.isGenerator = false) (hk : scope.kind = .function) : W c A (call (.ref fa) pos kw) h Q := fun tk => by
  refine wpAny_call (code_fn (cl' := []) f D (D.inK f.X _ _ ho) rfl (codeRec_of (D.inK f.X) hcd) (hbind tk (D.inK f.X)) hloc hls hnm .nil ?_ hcell hco hgen hk)
  intro A' env' g' L' h' m' f' D'
  refine (k A' env' g' L' h' m' f' D').mono fun fl h₂ ⟨m₂, ls₂, l₂, D₂, q⟩ => ⟨m₂, ls₂, l₂, D₂, fun D₃ tk' => ⟨_, _, rfl, q D₃⟩⟩
theorem x_ret {env : Env} {e : Expr} {pos : Pos} {Q : Flow → Heap → Prop} (k : W c A (eval e env) h (fun v h' => Q (.ret v) h')) : W c A (exec (.Return (some e) pos) env) h Q :=
  fun tk => wpAny_Return_some (k.use fun v h' tk' q => ⟨_, _, rfl, q⟩)
theorem x_ret0 {env : Env} {pos : Pos} {Q : Flow → Heap → Prop} (q : Q (.ret .none) h) : W c A (exec (.Return none pos) env) h Q :=
  fun tk => wpAny_Return_none ⟨_, _, rfl, q⟩
end
end Mine
namespace Mine
theorem AVs.split {xs ys : List AV} {vs : List Value} (h : AVs (xs ++ ys) vs) : ∃ v1 v2, vs = v1 ++ v2 ∧ AVs xs v1 ∧ AVs ys v2 := by
  induction xs generalizing vs with
  | nil => exact ⟨[], vs, rfl, .nil, h⟩
  | cons x xs ih =>
    cases h with
    | cons hx hr =>
      obtain ⟨v1, v2, rfl, h1, h2⟩ := ih hr
      exact ⟨_ :: v1, v2, rfl, .cons hx h1, h2⟩
theorem AVs.set {xs : List AV} {vs : List Value} (h : AVs xs vs) (i : Nat) {x : AV} {v : Value} (hx : x.is v) : AVs (xs.set i x) (vs.set i v) := by
  induction h generalizing i with
  | nil => exact .nil
  | cons a r ih =>
    cases i with
    | zero => exact .cons hx r
    | succ i => exact .cons a (ih i)
theorem AVs.one {x : AV} {v : Value} (h : x.is v) : AVs [x] [v] := .cons h .nil
section
variable {K : Frag} {c : Cx} {A : Around} {env : Env} {nm : List (Str × NameKind)} {L : Addr} {cl : List (Str × Addr)} {g h : Heap} {n : Nat} {m : Str → Option Value} {ls ls' : List (Str × Option AV)} {l l' : List (Addr × AObj)}
theorem LD.update {m : Str → Option Value} (D : LD c g L m h l) {d : Addr} {x x' : AObj} (u : UpdA d x x' l l') (f : Obj → Obj) (hf : ∀ o, h.get? d = some o → x.Is c o → x'.Is c (f o) ∧ (f o).isFreed = false) :
    LD c g L m (h.update d f) l' := by
  obtain ⟨r, hr, N⟩ := D.nw
  obtain ⟨o, ho, hm, up⟩ := u.led D.nd hr
  obtain ⟨h1, h2⟩ := hf o (N.get hm) ho
  obtain ⟨r', U, hr'⟩ := up (f o) h1
  obtain ⟨pre, post, rfl, rfl, a, b⟩ := U.split
  obtain ⟨F', N'⟩ := news_upd D.fr N a b rfl h2
  exact ⟨F', by rw [u.keys]; exact D.nd, _, hr', N'⟩
theorem ST.update (D : ST c g L m ls h l) {d : Addr} {x x' : AObj} (u : UpdA d x x' l l') (f : Obj → Obj) (hf : ∀ o, h.get? d = some o → x.Is c o → x'.Is c (f o) ∧ (f o).isFreed = false) : ST c g L m ls (h.update d f) l' := by
  have lo := D.lo; have d' := D.ld
  exact ⟨lo, d'.update u f hf⟩
theorem ST.at (D : ST c g L m ls h l) {d : Addr} {x : AObj} (hm : (d, x) ∈ l) : ∃ o, h.get? d = some o ∧ x.Is c o := by
  have lo := D.lo; have d' := D.ld
  exact d'.at hm
theorem ST.lst (D : ST c g L m ls h l) {d : Addr} {vs : List AV} (hm : (d, .lst vs) ∈ l) : ∃ ws n, h.get? d = some (PySem.W.listOf ws.toArray n) ∧ AVs vs ws := by
  obtain ⟨o, h1, ws, n, h2, h3⟩ := D.at hm
  exact ⟨ws, n, h2 ▸ h1, h3⟩
theorem ST.tup (D : ST c g L m ls h l) {d : Addr} {vs : List AV} (hm : (d, .tup vs) ∈ l) : ∃ ws, IsTup h d ws.toArray ∧ AVs vs ws := by
  obtain ⟨o, h1, ws, n, h2, h3⟩ := D.at hm
  exact ⟨ws, ⟨o, h1, by rw [h2], n, by rw [h2]⟩, h3⟩
theorem ST.alloc (D : ST c g L m ls h l) {o : Obj} {x : AObj} (hx : x.Is c o) (hf : o.isFreed = false) : ST c g L m ls (h.push o) ((h.objs.size, x) :: l) := by
  have lo := D.lo; have d' := D.ld
  exact ⟨lo, d'.alloc hx hf⟩
variable {i j : Int} {t u : Tok}
theorem b_add {Q : Value → Heap → Prop} (q : ∀ t', Q (.int (i + j) t') h) : W c A (binaryOp .Add (.int i t) (.int j u)) h Q := fun tk => PyProof.Rows.add_int ⟨_, _, rfl, q _⟩
theorem b_sub {Q : Value → Heap → Prop} (q : ∀ t', Q (.int (i - j) t') h) : W c A (binaryOp .Sub (.int i t) (.int j u)) h Q := fun tk => PyProof.Rows.sub_int ⟨_, _, rfl, q _⟩
theorem b_mul {Q : Value → Heap → Prop} (hm : IntMulOk i j) (q : ∀ t', Q (.int (i * j) t') h) : W c A (binaryOp .Mult (.int i t) (.int j u)) h Q := fun tk => PyProof.Rows.mul_int ⟨_, _, rfl, q _⟩ hm
theorem b_mod {Q : Value → Heap → Prop} (hj : j ≠ 0) (q : ∀ t', Q (.int (i.fmod j) t') h) : W c A (binaryOp .Mod (.int i t) (.int j u)) h Q := fun tk => PyProof.Rows.mod_int' hj ⟨_, _, rfl, q _⟩
theorem b_div {Q : Value → Heap → Prop} (hj : j ≠ 0) (hs : j.natAbs < 1073741824) (q : ∀ t', Q (.int (i.fdiv j) t') h) : W c A (binaryOp .FloorDiv (.int i t) (.int j u)) h Q := fun tk => PyProof.Rows.floordiv_int hj ⟨_, _, rfl, q _⟩ (.inl (PyProof.noPylong_small hs))
theorem c_lt {Q : Value → Heap → Prop} (q : Q (.bool (decide (i < j))) h) : W c A (compareOp .Lt (.int i t) (.int j u)) h Q := fun tk => PyProof.Rows.lt_int ⟨_, _, rfl, q⟩
theorem c_le {Q : Value → Heap → Prop} (q : Q (.bool (decide (i ≤ j))) h) : W c A (compareOp .LtE (.int i t) (.int j u)) h Q := fun tk => PyProof.Rows.le_int ⟨_, _, rfl, q⟩
theorem c_gt {Q : Value → Heap → Prop} (q : Q (.bool (decide (j < i))) h) : W c A (compareOp .Gt (.int i t) (.int j u)) h Q := fun tk => PyProof.Rows.gt_int ⟨_, _, rfl, q⟩
theorem c_ge {Q : Value → Heap → Prop} (q : Q (.bool (decide (j ≤ i))) h) : W c A (compareOp .GtE (.int i t) (.int j u)) h Q := fun tk => PyProof.Rows.ge_int ⟨_, _, rfl, q⟩
theorem c_eq {Q : Value → Heap → Prop} (q : Q (.bool (i == j)) h) : W c A (compareOp .Eq (.int i t) (.int j u)) h Q := fun tk => PyProof.Rows.eq_int ⟨_, _, rfl, q⟩
theorem c_ne {Q : Value → Heap → Prop} (q : Q (.bool (i != j)) h) : W c A (compareOp .NotEq (.int i t) (.int j u)) h Q := fun tk => PyProof.Rows.ne_int ⟨_, _, rfl, q⟩
theorem i_lst {e s : Expr} {d : Addr} {vs : List AV} {av : AV} {Q : Value → Heap → Prop} (D : ST c g L m ls h l) (hm : (d, .lst vs) ∈ l) (h0 : 0 ≤ i) (h1 : i < 2 ^ 63) (hx : vs[i.toNat]? = some av) (q : av.All fun v => Q v h)
    (hs : subscripted s false (.ref d) (.int i t) = operate [.ref d, .int i t] (getItem (.ref d) (.int i t))) : W c A (subscriptTail e s (.ref d) (.int i t)) h Q := fun tk => by
  obtain ⟨ws, n, h2, h3⟩ := D.lst hm
  obtain ⟨v, h4, h5⟩ := h3.get hx
  have hl : h.IsList d ws.toArray := PySem.IsL.isList (n := n) h2
  exact tail_any (s := ⟨h, c.g, c.d, tk, c.o⟩) (Heap.IsList.typeIs hl) slot_list_getitem.lookup (wpAny_getItem_list hl h0 h1 (by simpa using h4) ⟨_, _, rfl, q v h5⟩) hs
theorem s_lst {d : Addr} {vs : List AV} {av : AV} {v : Value} {Q : Unit → Heap → Prop} (D : ST c g L m ls h l) (h0 : 0 ≤ i) (h1 : i < 2 ^ 63) (hn : i < vs.length) (hv : av.is v) (up : UpdA d (.lst vs) (.lst (vs.set i.toNat av)) l l')
    (q : ∀ h', ST c g L m ls h' l' → Q () h') : W c A (setItem (.ref d) (.int i t) v) h Q := fun tk => by
  obtain ⟨ws, n, h2, h3⟩ := D.lst up.memOld
  have hl := h3.length
  refine ki_setAt (s := ⟨h, c.g, c.d, tk, c.o⟩) h2 h0 h1 (by rw [List.size_toArray, ← hl]; exact hn) ⟨_, _, rfl, q _ (D.update up _ fun o ho hx => ?_)⟩
  rw [h2] at ho
  cases ho
  refine ⟨⟨ws.set i.toNat v, n, ?_, h3.set _ hv⟩, ?_⟩
  · show Obj.mapSeq _ (PySem.W.listOf ws.toArray n) = _
    simp [Obj.mapSeq]
  · rfl
theorem len_lst {d : Addr} {vs : List AV} {Q : Value → Heap → Prop} (D : ST c g L m ls h l) (hm : (d, .lst vs) ∈ l) (hz : vs.length < 2 ^ 40) (q : ∀ t', Q (.int vs.length t') h) : W c A (call (.builtin "len") [.ref d]) h Q := fun tk => by
  obtain ⟨ws, n, h2, h3⟩ := D.lst hm
  have hl := h3.length
  refine PyProof.Rows.len_list (s := ⟨h, c.g, c.d, tk, c.o⟩) (PySem.IsL.isList (n := n) h2) (by rw [List.size_toArray, ← hl]; omega) ⟨_, _, rfl, ?_⟩
  rw [List.size_toArray, ← hl]
  exact q _
theorem n_lst {ws : List Value} {vs : List AV} {Q : Value → Heap → Prop} (D : ST c g L m ls h l) (hv : AVs vs ws) (hz : vs.length ≤ 1000000) (q : ∀ d h', ST c g L m ls h' ((d, .lst vs) :: l) → Q (.ref d) h') : W c A (newList ws) h Q := fun tk => by
  have lo := D.lo; have d := D.ld
  obtain ⟨r, hr, N⟩ := d.nw
  have hl := hv.length
  exact newList_N (s := ⟨h, c.g, c.d, tk, c.o⟩) d.fr N (fun h' F' N' => ⟨_, _, rfl, q _ h' ⟨lo, F', List.nodup_cons.mpr ⟨d.new (Nat.le_refl _), d.nd⟩, _, .cons ⟨ws, 0, rfl, hv⟩ hr, N'⟩⟩) (by rw [sizeLine_eq, ← hl]; omega)
theorem n_tup {ws : List Value} {vs : List AV} {Q : Value → Heap → Prop} (D : ST c g L m ls h l) (hv : AVs vs ws) (hz : vs.length ≤ 1000000) (q : ∀ d h', ST c g L m ls h' ((d, .tup vs) :: l) → Q (.ref d) h') : W c A (newTuple ws) h Q := fun tk => by
  have lo := D.lo; have d := D.ld
  obtain ⟨r, hr, N⟩ := d.nw
  have hl := hv.length
  exact newTuple_N (s := ⟨h, c.g, c.d, tk, c.o⟩) d.fr N (fun h' F' N' => ⟨_, _, rfl, q _ h' ⟨lo, F', List.nodup_cons.mpr ⟨d.new (Nat.le_refl _), d.nd⟩, _, .cons ⟨ws, 0, rfl, hv⟩ hr, N'⟩⟩) (by rw [sizeLine_eq, ← hl]; omega)
theorem kn_next {rest : List Stmt} {Q : Flow → Heap → Prop} (q : W c A (execs rest env) h Q) : Kn c A env rest Q .next h := q
theorem kn_ret {rest : List Stmt} {Q : Flow → Heap → Prop} {v : Value} (q : Q (.ret v) h) : Kn c A env rest Q (.ret v) h := q
theorem ST.fin {g' : Heap} {L' : Addr} {m₂ : Str → Option Value} {ls₂ : List (Str × Option AV)} {l₂ : List (Addr × AObj)} {P : Prop} (D : ST c g' L' m₂ ls₂ h l₂) (k : ST c g L m ls h l₂ → P) : ∃ m₂ ls₂ l₂, ST c g' L' m₂ ls₂ h l₂ ∧ (ST c g L m ls h l₂ → P) := ⟨m₂, ls₂, l₂, D, k⟩
end
end Mine
namespace Mine
theorem off1_mem {D : Addr} : ∀ {l : List (Addr × Obj)}, LCg.Off1 D l → ∀ p ∈ l, p.1 ≠ D
  | [], _, _, hp => nomatch hp
  | _ :: _, h, p, hp => by
    rcases List.mem_cons.mp hp with rfl | hp
    · exact h.1
    · exact off1_mem h.2 p hp
section
variable {K : Frag} {c : Cx} {A : Around} {env : Env} {nm : List (Str × NameKind)} {L : Addr} {cl : List (Str × Addr)} {g h : Heap} {n : Nat} {m : Str → Option Value} {ls ls' : List (Str × Option AV)} {l l' : List (Addr × AObj)}
structure CO (x : Str) (av : AV) (oC : Obj) (m₂ : Str → Option Value) : Prop where
  ns : LCg.NsObj oC m₂
  at_ : ∃ v, m₂ x = some v ∧ av.is v
theorem co_name {scope : Scope} {cl' : List (Str × Addr)} {x : Str} {px : Pos} {av : AV} {C : Addr} {oC : Obj} {m₂ : Str → Option Value} {Q : Value → Heap → Prop} (hx : scope.names.lookup x = some .local) (hxd : (x == ("__debug__" : Str)) = false) (hk : scope.kind = .function)
    (co : CO x av oC m₂) (hm : (C, .raw oC) ∈ l) (D : ST c g L m ls h l) (q : av.All fun v => Q v h) : W c A (eval (.Name x px) (compEnvC scope cl' C env)) h Q := fun tk => by
  obtain ⟨o, h1, h2⟩ := D.at hm
  cases h2
  obtain ⟨v, h3, h4⟩ := co.at_
  exact wpAny_Name (wpAny_loadName_local (env := compEnvC scope cl' C env) (by show (relabel scope env).kind = _; exact hk) (lookup_relabel_local hx) (co.ns.ns h1) h3 ⟨_, _, rfl, q v h4⟩) hxd
noncomputable def Src (c : Cx) (A : Around) (env : Env) (g : Heap) (L : Addr) (m : Str → Option Value) (ls : List (Str × Option AV)) (scope : Scope) (cl' : List (Str × Addr)) (x : Str) (ct : Expr) {α : Type} (φ : α → AV) (p : α → Bool) (Fin : Addr → List α → Addr → List α → List (Addr × AObj) → Prop) (xv : Value) (h₁ : Heap) : Prop :=
  ∃ ax xs lr, xv = .ref ax ∧ ST c g L m ls h₁ ((ax, .lst (xs.map φ)) :: lr) ∧ xs.length ≤ 1000000 ∧
    (∀ e C oC m₂ I oI D oD oax h', e ∈ xs → CO x (φ e) oC m₂ → ST c g L m ls h' ((I, .raw oI) :: (C, .raw oC) :: (D, .raw oD) :: (ax, .raw oax) :: lr) →
      W c A (isTrue ct (compEnvC scope cl' C env) (eval ct (compEnvC scope cl' C env))) h' (fun ok h'' => ok = p e ∧ ST c g L m ls h'' ((I, .raw oI) :: (C, .raw oC) :: (D, .raw oD) :: (ax, .raw oax) :: lr))) ∧
    ∀ D', Fin D' (xs.filter p) ax xs lr
end
end Mine
namespace Mine
section
variable {K : Frag} {c : Cx} {A : Around} {env : Env} {nm : List (Str × NameKind)} {L : Addr} {cl : List (Str × Addr)} {g h : Heap} {n : Nat} {m : Str → Option Value} {ls ls' : List (Str × Option AV)} {l l' : List (Addr × AObj)}
theorem t_and {x : Expr} {rest : List Expr} {pos : Pos} {whole : Sem Value} {Q : Bool → Heap → Prop}
    (k : W c A (isTrue x env (eval x env)) h (fun b h₁ => if b then W c A (isTrue (.BoolOp .And rest pos) env whole) h₁ Q else Q false h₁)) : W c A (isTrue (.BoolOp .And (x :: rest) pos) env whole) h Q :=
  fun tk => isTrue_and (k.use fun b h' tk' q => by cases b <;> first | exact q tk' | exact ⟨_, _, rfl, q⟩)
theorem t_or {x : Expr} {rest : List Expr} {pos : Pos} {whole : Sem Value} {Q : Bool → Heap → Prop}
    (k : W c A (isTrue x env (eval x env)) h (fun b h₁ => if b then Q true h₁ else W c A (isTrue (.BoolOp .Or rest pos) env whole) h₁ Q)) : W c A (isTrue (.BoolOp .Or (x :: rest) pos) env whole) h Q :=
  fun tk => isTrue_or (k.use fun b h' tk' q => by cases b <;> first | exact q tk' | exact ⟨_, _, rfl, q⟩)
theorem t_and0 {pos : Pos} {whole : Sem Value} {Q : Bool → Heap → Prop} (q : Q true h) : W c A (isTrue (.BoolOp .And [] pos) env whole) h Q := fun tk => isTrue_and_nil ⟨_, _, rfl, q⟩
theorem t_or0 {pos : Pos} {whole : Sem Value} {Q : Bool → Heap → Prop} (q : Q false h) : W c A (isTrue (.BoolOp .Or [] pos) env whole) h Q := fun tk => isTrue_or_nil ⟨_, _, rfl, q⟩
theorem t_not {x : Expr} {pos : Pos} {whole : Sem Value} {Q : Bool → Heap → Prop} (k : W c A (isTrue x env (eval x env)) h (fun b h₁ => Q (!b) h₁)) : W c A (isTrue (.UnaryOp .Not x pos) env whole) h Q :=
  fun tk => isTrue_not (k.use fun b h' tk' q => ⟨_, _, rfl, q⟩)
theorem c_is {v : Value} {Q : Value → Heap → Prop} (q : Q (.bool (v == .none)) h) : W c A (compareOp .Is v .none) h Q := fun tk => is_none_gen ⟨_, _, rfl, q⟩
theorem c_isnot {v : Value} {Q : Value → Heap → Prop} (q : Q (.bool (!(v == .none))) h) : W c A (compareOp .IsNot v .none) h Q := fun tk => isnot_none_gen ⟨_, _, rfl, q⟩
theorem x_pass {pos : Pos} {Q : Flow → Heap → Prop} (q : Q .next h) : W c A (exec (.Pass pos) env) h Q := fun tk => wpAny_Pass ⟨_, _, rfl, q⟩
noncomputable def Turn (Q : Flow → Heap → Prop) (I : Nat → Heap → Prop) (n : Nat) : Flow → Heap → Prop
  | .next, h => ∃ k, k < n ∧ I k h
  | .cont, h => ∃ k, k < n ∧ I k h
  | .brk, h => Q .next h
  | .ret v, h => Q (.ret v) h
theorem x_while {test : Expr} {body orelse : List Stmt} {pos : Pos} {Q : Flow → Heap → Prop} (I : Nat → Heap → Prop)
    (turn : ∀ n h, I n h → W c A (isTrue test env (eval test env)) h (fun b h₂ => if b then W c A (execs body env) h₂ (Turn Q I n) else W c A (execs orelse env) h₂ Q))
    (n : Nat) (hI : I n h) : W c A (exec (.While test body orelse pos) env) h Q := fun tk => by
  refine wpAny_While (codeAny_whileLoop (fun n s => ∃ h tk, s = ⟨h, c.g, c.d, tk, c.o⟩ ∧ I n h) (fun n s ⟨h, tk, e, hi⟩ => ?_) n ⟨h, tk, rfl, hI⟩)
  subst e
  refine (turn n h hi).use fun b h₂ tk₂ q => ?_
  cases b with
  | false => exact (show W c A (execs orelse env) h₂ Q from q).use fun f h₃ tk₃ q => ⟨_, _, rfl, q⟩
  | true =>
    refine (show W c A (execs body env) h₂ (Turn Q I n) from q).use fun f h₃ tk₃ q => ?_
    cases f with
    | next => obtain ⟨k, h1, h2⟩ := q; exact ⟨k, h1, _, _, rfl, h2⟩
    | cont => obtain ⟨k, h1, h2⟩ := q; exact ⟨k, h1, _, _, rfl, h2⟩
    | brk => exact ⟨_, _, rfl, q⟩
    | ret v => exact ⟨_, _, rfl, q⟩
noncomputable def ForP (c : Cx) (A : Around) (target : Expr) (env : Env) (body orelse : List Stmt) (Q : Flow → Heap → Prop) (it : Value) (h₂ : Heap) : Prop := ∃ (I : Nat → Heap → Prop) (n : Nat), I n h₂ ∧ ∀ n h, I n h → W c A (pyNext it) h (fun r h₁ => match r with
      | none => W c A (execs orelse env) h₁ Q
      | some v => W c A (assign target env v) h₁ (fun _ h₂ => W c A (execs body env) h₂ (Turn Q I n)))
theorem ForP.mk {c : Cx} {A : Around} {target : Expr} {env : Env} {body orelse : List Stmt} {Q : Flow → Heap → Prop} {it : Value} {h₂ : Heap} (I : Nat → Heap → Prop) (n : Nat) (hI : I n h₂) (turn : ∀ n h, I n h → W c A (pyNext it) h (fun r h₁ => match r with
      | none => W c A (execs orelse env) h₁ Q
      | some v => W c A (assign target env v) h₁ (fun _ h₂ => W c A (execs body env) h₂ (Turn Q I n)))) : ForP c A target env body orelse Q it h₂ := ⟨I, n, hI, turn⟩
theorem x_for {target iter : Expr} {body orelse : List Stmt} {pos : Pos} {Q : Flow → Heap → Prop}
    (k : W c A (eval iter env) h (fun xv h₁ => W c A (pyIter xv) h₁ (ForP c A target env body orelse Q)))
    (ht : ∀ it v, letOwnedTupleGo target it v = pure ()) (hs : ∀ x, foldedSetIterable iter env x = pure x) : W c A (exec (.For target iter body orelse pos) env) h Q := fun tk => by
  refine wpAny_For (k.use fun xv h₁ tk₁ q => q.use fun it h₂ tk₂ ⟨I, n, hI, turn⟩ => ?_) hs
  refine codeAny_forLoop (fun n s => ∃ h tk, s = ⟨h, c.g, c.d, tk, c.o⟩ ∧ I n h) (fun n s ⟨h, tk, e, hi⟩ => ?_) n ⟨h₂, tk₂, rfl, hI⟩ (ht it)
  subst e
  refine (turn n h hi).use fun r h₃ tk₃ q => ?_
  cases r with
  | none => exact (show W c A (execs orelse env) h₃ Q from q).use fun f h₄ tk₄ q => ⟨_, _, rfl, q⟩
  | some v =>
    refine (show W c A (assign target env v) h₃ (fun _ h₂ => W c A (execs body env) h₂ (Turn Q I n)) from q).use fun _ h₄ tk₄ q => q.use fun f h₅ tk₅ q => ?_
    cases f with
    | next => obtain ⟨k, h1, h2⟩ := q; exact ⟨k, h1, _, _, rfl, h2⟩
    | cont => obtain ⟨k, h1, h2⟩ := q; exact ⟨k, h1, _, _, rfl, h2⟩
    | brk => exact ⟨_, _, rfl, q⟩
    | ret v => exact ⟨_, _, rfl, q⟩
theorem as_name {x : Str} {pos : Pos} {v : Value} {Q : Unit → Heap → Prop} (k : W c A (storeName env x v) h Q) : W c A (assign (.Name x pos) env v) h Q := fun tk => by
  exact PyProof.Rows.assign_Name (k tk)
noncomputable def IsIt (o : Obj) (d : Addr) (i : Nat) : Prop := o.cls = .type "list_iterator" ∧ o.data = .fields #[.ref d, .int i 0]
theorem LD.same {d : Addr} {x x' : AObj} {h' : Heap} {o' : Obj} (D : LD c g L m h l) (u : UpdA d x x' l l') (hs : Heap.SameBut d h h') (ge : h'.get? d = some o') (hx : x'.Is c o') : LD c g L m h' l' := by
  obtain ⟨r, hr, N⟩ := D.nw
  obtain ⟨o, ho, hm, up⟩ := u.led D.nd hr
  obtain ⟨r', U, hr'⟩ := up o' hx
  have z := N _ hm
  obtain ⟨pre, post, rfl, rfl, p1, p2⟩ := U.split
  exact ⟨D.fr.change hs z.2.1 z.2.2, by rw [u.keys]; exact D.nd, _, hr', news_set N p1 p2 hs ge⟩
theorem LD.but {d : Addr} {x : AObj} {h' : Heap} (D : LD c g L m h ((d, x) :: l)) (hk : ∀ b o, b ≠ d → h.get? b = some o → h'.get? b = some o) : LD c g L m h' l := by
  obtain ⟨r, hr, N⟩ := D.nw
  cases hr with
  | cons q hr =>
    have z := N _ (.head _)
    have nd := D.nd
    rw [List.map_cons, List.nodup_cons] at nd
    have hk' : ∀ b o, b ∉ [d] → h.get? b = some o → h'.get? b = some o := fun b o e => hk b o (by simpa using e)
    refine ⟨LCg.fr_but D.fr hk' (Ne.symm z.2.1) z.2.2, nd.2, _, hr, LCg.news_but (N := fun p hp => N p (.tail _ hp)) hk' fun p hp e => nd.1 ?_⟩
    rw [← hr.keys, ← e]
    exact List.mem_map_of_mem hp
theorem it_new {d : Addr} {vs : List AV} {Q : Value → Heap → Prop} (D : ST c g L m ls h l) (hm : (d, .lst vs) ∈ l) (q : ∀ it o h', IsIt o d 0 → ST c g L m ls h' ((it, .raw o) :: l) → Q (.ref it) h') : W c A (pyIter (.ref d)) h Q := fun tk => by
  obtain ⟨ws, n, h2, h3⟩ := D.lst hm
  exact wpAny_pyIter_list (s := ⟨h, c.g, c.d, tk, c.o⟩) (PySem.IsL.isList (n := n) h2) ⟨_, _, rfl, q _ _ _ ⟨rfl, rfl⟩ (D.alloc (x := .raw _) rfl rfl)⟩
theorem it_next {d it : Addr} {i : Nat} {o : Obj} {vs : List AV} {av : AV} {Q : Option Value → Heap → Prop} (D : ST c g L m ls h ((it, .raw o) :: l)) (io : IsIt o d i) (hm : (d, .lst vs) ∈ l) (hx : vs[i]? = some av)
    (q : av.All fun v => ∀ o' h', IsIt o' d (i + 1) → ST c g L m ls h' ((it, .raw o') :: l) → Q (some v) h') : W c A (pyNext (.ref it)) h Q := fun tk => by
  obtain ⟨ws, n, h2, h3⟩ := D.lst (.tail _ hm)
  obtain ⟨v, h4, h5⟩ := h3.get hx
  obtain ⟨o, h6, h7⟩ := D.at (.head _)
  cases h7
  refine wpAny_pyNext_list_item (s := ⟨h, c.g, c.d, tk, c.o⟩) (x := v) (i := i) ⟨_, h6, io.1, io.2⟩ (PySem.IsL.isList (n := n) h2) (by simpa using h4) fun h' hit sb => ?_
  obtain ⟨o', e1, e2, e3⟩ := hit
  exact ⟨h', tk, rfl, q v h5 o' h' ⟨e2, e3⟩ ⟨D.lo, D.ld.same .head sb e1 rfl⟩⟩
theorem it_end {d it : Addr} {i : Nat} {o : Obj} {vs : List AV} {Q : Option Value → Heap → Prop} (f : FO K c A env nm L cl g n) (D : ST c g L m ls h ((it, .raw o) :: l)) (io : IsIt o d i) (hm : (d, .lst vs) ∈ l) (hx : vs[i]? = none)
    (q : ∀ h', ST c g L m ls h' l → Q none h') : W c A (pyNext (.ref it)) h Q := fun tk => by
  obtain ⟨ws, n', h2, h3⟩ := D.lst (.tail _ hm)
  obtain ⟨o, h6, h7⟩ := D.at (.head _)
  cases h7
  have hx' : ws.toArray[i]? = none := by
    have hl := h3.length
    have := List.getElem?_eq_none_iff.mp hx
    simp; omega
  refine wpAny_pyNext_list_end (s := ⟨h, c.g, c.d, tk, c.o⟩) f.hh (i := i) ⟨_, h6, io.1, io.2⟩ (PySem.IsL.isList (n := n') h2) hx' fun h' eb => ?_
  exact ⟨h', tk, rfl, q h' ⟨D.lo, D.ld.but fun b o ne e => eb b o ne e⟩⟩
theorem LD.ext {h' : Heap} (D : LD c g L m h l) (hk : ∀ b o, h.get? b = some o → h'.get? b = some o) : LD c g L m h' l := by
  obtain ⟨r, hr, N⟩ := D.nw
  exact ⟨⟨D.fr.ns.at' fun o e => hk _ o e, fun b o e => hk b o (D.fr.keep b o e), D.fr.above⟩, D.nd, r, hr, fun p hp => ⟨hk _ _ (N p hp).1, (N p hp).2⟩⟩
theorem ST.ext {h' : Heap} (D : ST c g L m ls h l) (hk : ∀ b o, h.get? b = some o → h'.get? b = some o) : ST c g L m ls h' l := ⟨D.lo, D.ld.ext hk⟩
theorem in_nil {xs : List Value} {Q : Unit → Heap → Prop} (q : Q () h) : W c A (assignInOrder [] xs) h Q := fun tk => wpAny_pure ⟨_, _, rfl, q⟩
theorem in_cons {t : Value → Sem Unit} {ts : List (Value → Sem Unit)} {x : Value} {xs : List Value} {Q : Unit → Heap → Prop} (k : W c A (t x) h (fun _ h₁ => W c A (assignInOrder ts xs) h₁ Q)) : W c A (assignInOrder (t :: ts) (x :: xs)) h Q := fun tk =>
  wpAny_bind (wpAny_holding (k.use fun _ h' tk' q => q tk'))
theorem as_attr {o : Expr} {y : Str} {pos : Pos} {v : Value} {Q : Unit → Heap → Prop} (k : W c A (eval o env) h (fun ov h₁ => W c A (setAttr ov y v) h₁ Q)) : W c A (assign (.Attribute o y pos) env v) h Q := fun tk => by
  exact kas_attr (k.use fun ov h' tk' q => (q.use fun _ h2 tk2 q2 => ⟨_, _, rfl, q2⟩))
theorem as_tup {elts : List Expr} {x1 : Nat} {pos : Pos} {t : Addr} {vs : List AV} {Q : Unit → Heap → Prop} (f : FO K c A env nm L cl g n) (D : ST c g L m ls h l) (hm : (t, .tup vs) ∈ l) (hn : (assignEach elts env).length = vs.length) (hstar : (assignEach elts env).findIdx? (·.1) = none)
    (q : ∀ ws h', AVs vs ws → ST c g L m ls h' l → W c A (assignInOrder ((assignEach elts env).map (·.2)) ws) h' Q) : W c A (assign (.Tuple elts x1 pos) env (.ref t)) h Q := fun tk => by
  obtain ⟨ws, h2, h3⟩ := D.tup hm
  refine assign_Tuple_tuple (s := ⟨h, c.g, c.d, tk, c.o⟩) f.hh h2 (by rw [hn, h3.length]; simp) hstar fun h' eb => ?_
  exact q ws h' h3 (D.ext fun b o e => eb b o (Nat.ne_of_lt (Heap.lt_size e)) e) tk
theorem x_tup {elts : List Expr} {k : Nat} {tpos pos : Pos} {value : Expr} {Q : Flow → Heap → Prop}
    (x : W c A (eval value env) h (fun v h₁ => W c A (assign (.Tuple elts k tpos) env v) h₁ (fun _ h₂ => Q .next h₂)))
    (hs : swapsWithSole [.Tuple elts k tpos] value pos.line env = pure false) (hw : swappedStores [.Tuple elts k tpos] value env = pure none) :
    W c A (exec (.Assign [.Tuple elts k tpos] value pos) env) h Q := fun tk =>
  Assign_Tuple (x.use fun v h' tk' q => q.use fun _ h2 tk2 q2 => ⟨_, _, rfl, q2⟩) hs hw
theorem x_tupS {elts : List Expr} {k : Nat} {tpos pos : Pos} {value : Expr} {names : List Str} {Q : Flow → Heap → Prop}
    (x : W c A (eval value env) h (fun v h₁ => W c A (unpackItems v names.length none) h₁ (fun items h₂ => W c A (assignInOrder (names.reverse.map fun n => bindName env n) items.reverse) h₂ (fun _ h₃ => Q .next h₃))))
    (hs : swapsWithSole [.Tuple elts k tpos] value pos.line env = pure false) (hw : swappedStores [.Tuple elts k tpos] value env = pure (some names)) :
    W c A (exec (.Assign [.Tuple elts k tpos] value pos) env) h Q := fun tk =>
  Assign_Tuple_swapped (x.use fun v h' tk' q => q.use fun _ h2 tk2 q2 => q2.use fun _ h3 tk3 q3 => ⟨_, _, rfl, q3⟩) hs hw
theorem un_tup {t : Addr} {vs : List AV} {n' : Nat} {Q : List Value → Heap → Prop} (f : FO K c A env nm L cl g n) (D : ST c g L m ls h l) (hm : (t, .tup vs) ∈ l) (hn : n' = vs.length)
    (q : ∀ ws h', AVs vs ws → ST c g L m ls h' l → Q ws h') : W c A (unpackItems (.ref t) n' none) h Q := fun tk => by
  obtain ⟨ws, h2, h3⟩ := D.tup hm
  have e : n' = ws.toArray.size := by rw [hn, h3.length]; simp
  subst e
  refine unpackItems_tuple (s := ⟨h, c.g, c.d, tk, c.o⟩) f.hh h2 fun h' eb => ⟨h', tk, rfl, q ws h' h3 (D.ext fun b o e => eb b o (Nat.ne_of_lt (Heap.lt_size e)) e)⟩
theorem bind_name {x : Str} {v : Value} {Q : Unit → Heap → Prop} (k : W c A (storeName env x v) h Q) : W c A (bindName env x v) h Q := fun tk => wpAny_bindName (k tk)
end
end Mine
namespace Mine
section
variable {K : Frag} {c : Cx} {A : Around} {env : Env} {nm : List (Str × NameKind)} {L : Addr} {cl : List (Str × Addr)} {g h : Heap} {n : Nat} {m : Str → Option Value} {ls ls' : List (Str × Option AV)} {l l' : List (Addr × AObj)}
theorem ST.listU {d : Addr} {vs vs' : List AV} (D : ST c g L m ls h l) (u : UpdA d (.lst vs) (.lst vs') l l') : ∃ ws n r, Led c l r ∧ Fr g L h m ∧ News g L h r ∧ (d, PySem.W.listOf ws.toArray n) ∈ r ∧ AVs vs ws ∧
    ∀ ws' n', AVs vs' ws' → ∃ r', Upd d (PySem.W.listOf ws.toArray n) (PySem.W.listOf ws'.toArray n') r r' ∧ ∀ h', Fr g L h' m → News g L h' r' → ST c g L m ls h' l' := by
  obtain ⟨r, hr, N⟩ := D.ld.nw
  obtain ⟨o, ⟨ws, n, rfl, hv⟩, hmem, up⟩ := u.led D.ld.nd hr
  refine ⟨ws, n, r, hr, D.ld.fr, N, hmem, hv, fun ws' n' hv' => ?_⟩
  obtain ⟨r', U, hr'⟩ := up (PySem.W.listOf ws'.toArray n') ⟨_, _, rfl, hv'⟩
  exact ⟨r', U, fun h' F' N' => ⟨D.lo, F', by rw [u.keys]; exact D.ld.nd, r', hr', N'⟩⟩
theorem lm {d : Addr} {vs : List AV} {name : Str} {id : String} {pl : Sem Bool} {Q : Value × List Value → Heap → Prop} (slot : Slot "list" name id) (hty : typeOf (.builtin id) = pure (.type "method_descriptor")) (D : ST c g L m ls h l) (hm : (d, .lst vs) ∈ l)
    (q : Q (.builtin id, [.ref d]) h) : W c A (getMethod (.ref d) name pl) h Q := fun tk => by
  obtain ⟨r, hr, N⟩ := D.ld.nw
  obtain ⟨o, h1, ws, n, rfl, _⟩ := hr.mem hm
  exact kl_method (s := ⟨h, c.g, c.d, tk, c.o⟩) N h1 slot hty ⟨_, _, rfl, q⟩
theorem AVs.snoc {xs : List AV} {ws : List Value} {x : AV} {v : Value} (h : AVs xs ws) (hv : x.is v) : AVs (xs ++ [x]) (ws ++ [v]) := h.append (.one hv)
theorem l_append {d : Addr} {vs : List AV} {x : AV} {v : Value} {Q : Value → Heap → Prop} (D : ST c g L m ls h l) (hv : x.is v) (u : UpdA d (.lst vs) (.lst (vs ++ [x])) l l') (hz : vs.length ≤ 1000000) (q : ∀ h', ST c g L m ls h' l' → Q .none h') :
    W c A (call (.builtin "list.append") [.ref d, v]) h Q := fun tk => by
  obtain ⟨ws, n, h2, h3⟩ := D.lst u.memOld
  have hl := h3.length
  refine append_at (s := ⟨h, c.g, c.d, tk, c.o⟩) h2 (fun h' sb ge => ⟨h', tk, rfl, q h' ⟨D.lo, D.ld.same u sb ge ⟨ws ++ [v], n + 1, ?_, h3.snoc hv⟩⟩⟩) (by rw [List.size_toArray, sizeLine_eq, ← hl]; omega)
  simp
theorem kl_last_snoc : ∀ (p : List Value) (y : Value), kl_last (p ++ [y]) = some (p, y)
  | [], y => rfl
  | x :: p, y => by
    show (match kl_last (p ++ [y]) with | some (p, y) => some (x :: p, y) | none => some ([], x)) = _
    rw [kl_last_snoc p y]
theorem l_pop {d : Addr} {vs : List AV} {x : AV} {Q : Value → Heap → Prop} (D : ST c g L m ls h l) (u : UpdA d (.lst (vs ++ [x])) (.lst vs) l l') (hz : vs.length ≤ 1000000) (q : x.All fun v => ∀ h', ST c g L m ls h' l' → Q v h') :
    W c A (call (.builtin "list.pop") [.ref d]) h Q := fun tk => by
  obtain ⟨ws, n, r, hr, F, N, hm, hv, up⟩ := D.listU u
  obtain ⟨w1, w2, rfl, h1, h2⟩ := hv.split
  cases h2 with
  | cons hx h3 =>
    cases h3
    have hl := h1.length
    obtain ⟨r', U, k⟩ := up w1 (n + 1) h1
    exact kl_pop (s := ⟨h, c.g, c.d, tk, c.o⟩) F N (kl_last_snoc _ _) U (by rw [sizeLine_eq]; simp; omega) fun h' F' N' => ⟨h', tk, rfl, q _ hx h' (k h' F' N')⟩
theorem AVs.take {xs : List AV} {ws : List Value} (h : AVs xs ws) (i : Nat) : AVs (xs.take i) (ws.take i) := by
  induction h generalizing i with
  | nil => simp; exact .nil
  | cons a _ ih => cases i with
    | zero => exact .nil
    | succ i => exact .cons a (ih i)
theorem AVs.drop {xs : List AV} {ws : List Value} (h : AVs xs ws) (i : Nat) : AVs (xs.drop i) (ws.drop i) := by
  induction h generalizing i with
  | nil => simp; exact .nil
  | cons a r ih => cases i with
    | zero => exact .cons a r
    | succ i => exact ih i
theorem l_insert {d : Addr} {vs : List AV} {x : AV} {v : Value} {i : Nat} {t : Tok} {Q : Value → Heap → Prop} (D : ST c g L m ls h l) (hv : x.is v) (u : UpdA d (.lst vs) (.lst (vs.take i ++ x :: vs.drop i)) l l') (hi : i ≤ vs.length) (hz : vs.length ≤ 1000000)
    (q : ∀ h', ST c g L m ls h' l' → Q .none h') : W c A (call (.builtin "list.insert") [.ref d, .int i t, v]) h Q := fun tk => by
  obtain ⟨ws, n, r, hr, F, N, hm, hw, up⟩ := D.listU u
  have hl := hw.length
  obtain ⟨r', U, k⟩ := up (ws.take i ++ v :: ws.drop i) (n + 1) ((hw.take i).append (.cons hv (hw.drop i)))
  refine kl_insert (s := ⟨h, c.g, c.d, tk, c.o⟩) F N (x := (i : Int)) ?_ ?_ U (by rw [sizeLine_eq]; simp; omega) fun h' F' N' => ⟨h', tk, rfl, q h' (k h' F' N')⟩
  · unfold Builtin.List.listFitsIndex; simp; omega
  · unfold kl_ins
    rw [if_neg (by omega)]
    have : min i ws.length = i := by omega
    simp [this]
theorem b_ladd {d b : Addr} {vs ws : List AV} {Q : Value → Heap → Prop} (D : ST c g L m ls h l) (h1 : (d, .lst vs) ∈ l) (h2 : (b, .lst ws) ∈ l) (hz : vs.length + ws.length ≤ 1000000) (q : ∀ r h', ST c g L m ls h' ((r, .lst (vs ++ ws)) :: l) → Q (.ref r) h') :
    W c A (binaryOp .Add (.ref d) (.ref b)) h Q := fun tk => by
  obtain ⟨r, hr, N⟩ := D.ld.nw
  obtain ⟨x1, n1, e1, v1⟩ := D.lst h1
  obtain ⟨x2, n2, e2, v2⟩ := D.lst h2
  have l1 := v1.length
  have l2 := v2.length
  refine add_arrays (s := ⟨h, c.g, c.d, tk, c.o⟩) D.ld.fr N (PySem.IsL.isList (n := n1) e1) (PySem.IsL.isList (n := n2) e2) (fun h' F' N' => ⟨h', tk, rfl, q _ h' ⟨D.lo, F', List.nodup_cons.mpr ⟨D.ld.new (Nat.le_refl _), D.ld.nd⟩, _, .cons ⟨x1 ++ x2, 0, rfl, v1.append v2⟩ hr, N'⟩⟩) ?_
  rw [List.size_toArray, List.size_toArray, sizeLine_eq]; omega
end
end Mine
namespace Mine
section
variable {K : Frag} {c : Cx} {A : Around} {env : Env} {nm : List (Str × NameKind)} {L : Addr} {cl : List (Str × Addr)} {g h : Heap} {n : Nat} {m : Str → Option Value} {ls ls' : List (Str × Option AV)} {l l' : List (Addr × AObj)}
theorem ST.notMod {d : Addr} {x : AObj} (f : FO K c A env nm L cl g n) (D : ST c g L m ls h l) (hm : (d, x) ∈ l) : (d == sysModules) = false := by
  obtain ⟨r, hr, N⟩ := D.ld.nw
  obtain ⟨o, h1, _⟩ := hr.mem hm
  obtain ⟨o', q⟩ := f.sm
  refine beq_eq_false_iff_ne.mpr fun e => ?_
  have := (N _ h1).2.2
  rw [e, q] at this
  cases this
noncomputable def storedA (kvs : List (Int × AV)) (k : Int) (x : AV) : List (Int × AV) := if kvs.any (fun kv => kv.1 = k) then kvs.map (fun kv => if kv.1 = k then (kv.1, x) else kv) else kvs ++ [(k, x)]
theorem IKvs.any {kvs : List (Int × AV)} {kws : List (Int × Value)} (h : IKvs kvs kws) (k : Int) : kvs.any (fun kv => kv.1 = k) = kws.any (fun kv => kv.1 = k) := by
  induction h with
  | nil => rfl
  | cons _ _ ih => simp only [List.any_cons, ih]
theorem IKvs.snoc {kvs : List (Int × AV)} {kws : List (Int × Value)} (h : IKvs kvs kws) {k : Int} {x : AV} {v : Value} (hv : x.is v) : IKvs (kvs ++ [(k, x)]) (kws ++ [(k, v)]) := by
  induction h with
  | nil => exact .cons hv .nil
  | cons a _ ih => exact .cons a ih
theorem IKvs.stored {kvs : List (Int × AV)} {kws : List (Int × Value)} (h : IKvs kvs kws) (k : Int) {x : AV} {v : Value} (hv : x.is v) : IKvs (storedA kvs k x) (PySem.stored kws k v) := by
  unfold storedA PySem.stored
  rw [h.any k]
  split
  · rename_i hk
    clear hk
    induction h with
    | nil => exact .nil
    | @cons k' y w r r' a _ ih =>
      rw [List.map_cons, List.map_cons]
      by_cases e : k' = k
      · simp only [e, if_true]; exact .cons hv ih
      · simp only [e, if_false]; exact .cons a ih
  · exact h.snoc hv
theorem IKvs.at {kvs : List (Int × AV)} {kws : List (Int × Value)} (h : IKvs kvs kws) {k : Int} {x : AV} (e : kvs.lookup k = some x) : ∃ v, PySem.valueAt kws k = some v ∧ x.is v := by
  unfold PySem.valueAt
  induction h with
  | nil => cases e
  | @cons k' y w r r' a _ ih =>
    rw [List.lookup_cons] at e
    rw [List.find?_cons]
    by_cases q : k = k'
    · subst q; simp at e; subst e; exact ⟨w, by simp, a⟩
    · have : (k == k') = false := beq_eq_false_iff_ne.mpr q
      rw [this] at e
      have q' : (decide (k' = k)) = false := decide_eq_false (Ne.symm q)
      rw [q']
      exact ih e
theorem IKvs.length {kvs : List (Int × AV)} {kws : List (Int × Value)} (h : IKvs kvs kws) : kvs.length = kws.length := by
  induction h with
  | nil => rfl
  | cons _ _ ih => simp [ih]
theorem d_new {pos : Pos} {Q : Value → Heap → Prop} (D : ST c g L m ls h l) (q : ∀ d h', ST c g L m ls h' ((d, .idict []) :: l) → Q (.ref d) h') : W c A (eval (.Dict [] [] pos) env) h Q := fun tk => by
  refine wpAny_Dict_empty ⟨_, tk, rfl, q _ _ (D.alloc (x := .idict []) ⟨[], ?_, .nil⟩ rfl)⟩
  obtain ⟨o, ho, hd⟩ := Heap.dictOf_iff.mp (Heap.DictOf.new (knd := intKind c.prog c.w) h)
  rw [Heap.get?_push_size _ rfl] at ho
  cases ho
  exact hd
theorem UpdA.toF {d : Addr} {x x' : AObj} (u : UpdA d x x' l l') (nd : (l.map (·.1)).Nodup) {r : List (Addr × Obj)} (hl : Led c l r) : ∃ o G, x.Is c o ∧ PySem.W.UpdF d o r G ∧ ∀ o', x'.Is c o' → Led c l' (G o') := by
  induction u generalizing r with
  | @head r0 =>
    cases hl with
    | @cons _ _ o _ r1 q hr =>
      refine ⟨o, _, q, .head fun p hp e => ?_, fun o' q' => .cons q' hr⟩
      rw [List.map_cons, List.nodup_cons] at nd
      exact nd.1 (by rw [← hr.keys, ← e]; exact List.mem_map_of_mem hp)
  | @tail p r0 r0' u ih =>
    cases hl with
    | @cons a y oy _ r1 q hr =>
      rw [List.map_cons, List.nodup_cons] at nd
      obtain ⟨o, G, h1, h2, h3⟩ := ih nd.2 hr
      exact ⟨o, _, h1, .tail (fun e => nd.1 (by have := u.memKey; rw [← e] at this; exact this)) h2, fun o' q' => .cons q (h3 o' q')⟩
theorem d_set {d : Addr} {kvs : List (Int × AV)} {av : AV} {i : Int} {t : Tok} {v : Value} {Q : Unit → Heap → Prop} (D : ST c g L m ls h l) (hv : av.is v) (u : UpdA d (.idict kvs) (.idict (storedA kvs i av)) l l') (hz : kvs.length ≤ 1000000)
    (q : ∀ h', ST c g L m ls h' l' → Q () h') : W c A (setItem (.ref d) (.int i t) v) h Q := fun tk => by
  obtain ⟨r, hr, N⟩ := D.ld.nw
  obtain ⟨o, G, ⟨kws, h2, h3⟩, U, up⟩ := u.toF D.ld.nd hr
  have hl := h3.length
  refine kda_set (s := ⟨h, c.g, c.d, tk, c.o⟩) D.ld.fr N U h2 (intKind_is c.prog c.w i t) (by rw [sizeLine_eq, ← hl]; omega) fun h' o' F' N' hd => ⟨h', _, rfl, q h' ⟨D.lo, F', by rw [u.keys]; exact D.ld.nd, _, up o' ⟨_, hd, h3.stored i hv⟩, N'⟩⟩
theorem dm {d : Addr} {kvs : List (Int × AV)} {name : Str} {id : String} {pl : Sem Bool} {Q : Value × List Value → Heap → Prop} (slot : Slot "dict" name id) (hty : typeOf (.builtin id) = pure (.type "method_descriptor")) (D : ST c g L m ls h l) (hm : (d, .idict kvs) ∈ l)
    (q : Q (.builtin id, [.ref d]) h) : W c A (getMethod (.ref d) name pl) h Q := fun tk => by
  obtain ⟨r, hr, N⟩ := D.ld.nw
  obtain ⟨o, h1, kws, h2, h3⟩ := hr.mem hm
  exact kob_method (s := ⟨h, c.g, c.d, tk, c.o⟩) slot hty N h1 h2 ⟨_, _, rfl, q⟩
theorem d_get1 {d : Addr} {kvs : List (Int × AV)} {av : AV} {i : Int} {t : Tok} {Q : Value → Heap → Prop} (f : FO K c A env nm L cl g n) (D : ST c g L m ls h l) (hm : (d, .idict kvs) ∈ l) (hx : kvs.lookup i = some av) (q : av.All fun v => Q v h) :
    W c A (call (.builtin "dict.get") [.ref d, .int i t]) h Q := fun tk => by
  obtain ⟨r, hr, N⟩ := D.ld.nw
  obtain ⟨o, h1, kws, h2, h3⟩ := hr.mem hm
  obtain ⟨v, h4, h5⟩ := h3.at hx
  have hd := kda_dict (s := ⟨h, c.g, c.d, tk, c.o⟩) N h1 h2
  refine call_meetsIn PySem.F.slot_dict_get hd.typeIs PySem.F.entry_dict_get (PySem.F.args_dict_get_2 _ _) (meets_dict_get (intKind c.prog c.w) d (intKind_is c.prog c.w i t) (D.notMod f hm)) ⟨_, hd.mapOf, _, _, rfl, ?_⟩
  rw [h4]
  exact q v h5
theorem d_get2 {d : Addr} {kvs : List (Int × AV)} {av : AV} {i : Int} {t : Tok} {dflt : Value} {Q : Value → Heap → Prop} (f : FO K c A env nm L cl g n) (D : ST c g L m ls h l) (hm : (d, .idict kvs) ∈ l) (hx : kvs.lookup i = some av) (q : av.All fun v => Q v h) :
    W c A (call (.builtin "dict.get") [.ref d, .int i t, dflt]) h Q := fun tk => by
  obtain ⟨r, hr, N⟩ := D.ld.nw
  obtain ⟨o, h1, kws, h2, h3⟩ := hr.mem hm
  obtain ⟨v, h4, h5⟩ := h3.at hx
  have hd := kda_dict (s := ⟨h, c.g, c.d, tk, c.o⟩) N h1 h2
  refine call_meetsIn PySem.F.slot_dict_get hd.typeIs PySem.F.entry_dict_get (PySem.F.args_dict_get_3 _ _ _) (meets_dict_get_default (intKind c.prog c.w) d (intKind_is c.prog c.w i t) (D.notMod f hm) dflt) ⟨_, hd.mapOf, _, _, rfl, ?_⟩
  rw [h4]
  exact q v h5
theorem foldl_arr (xs : Array Value) : ∀ (k : Nat) (acc : Array Value), (List.foldl (fun x1 x2 => x1 ++ x2) acc (List.replicate k xs)).toList = acc.toList ++ (List.replicate k xs.toList).flatten
  | 0, acc => by simp
  | k + 1, acc => by rw [List.replicate_succ, List.foldl_cons, foldl_arr xs k]; simp [List.replicate_succ]
theorem AVs.many {vs : List AV} {ws : List Value} (h : AVs vs ws) : ∀ k : Nat, AVs (List.replicate k vs).flatten (List.replicate k ws).flatten
  | 0 => .nil
  | k + 1 => by rw [List.replicate_succ, List.replicate_succ, List.flatten_cons, List.flatten_cons]; exact h.append (AVs.many h k)
theorem b_lmul {d : Addr} {vs : List AV} {k : Nat} {t : Tok} {Q : Value → Heap → Prop} (D : ST c g L m ls h l) (h1 : (d, .lst vs) ∈ l) (hz : vs.length * k ≤ 1000000) (hk : k < 1000000) (q : ∀ r h', ST c g L m ls h' ((r, .lst (List.replicate k vs).flatten) :: l) → Q (.ref r) h') :
    W c A (binaryOp .Mult (.ref d) (.int k t)) h Q := fun tk => by
  obtain ⟨r, hr, N⟩ := D.ld.nw
  obtain ⟨ws, n1, e1, v1⟩ := D.lst h1
  have l1 := v1.length
  refine mul_list (s := ⟨h, c.g, c.d, tk, c.o⟩) D.ld.fr N e1 (by omega) (by omega) (by rw [List.size_toArray, Int.toNat_natCast, ← l1]; omega) fun h' F' N' => ⟨h', tk, rfl, q _ h' ⟨D.lo, F', List.nodup_cons.mpr ⟨D.ld.new (Nat.le_refl _), D.ld.nd⟩, _, .cons ⟨(List.replicate k ws).flatten, 0, ?_, v1.many k⟩ hr, N'⟩⟩
  have e : (List.foldl (fun x1 x2 => x1 ++ x2) #[] (List.replicate (if ws.toArray.isEmpty = true then 0 else Int.toNat (k : Int)) ws.toArray)) = (List.replicate k ws).flatten.toArray := by
    apply Array.toList_inj.mp
    rw [foldl_arr]
    cases ws with
    | nil => simp
    | cons a ws => simp
  rw [e]
end
end Mine
namespace Mine
section
variable {prog : Program} {w : World} {A : Around} {E : Value → Shared → Prop} {s : Shared}
theorem slice_fit {a n : Nat} {x y : Int} (h : a + n ≤ 1000000) : min x.toNat a - 0 + n + (min a a - (max x y).toNat) ≤ 16777216 + 1 :=
  Nat.le_trans (Nat.add_le_add (Nat.add_le_add (Nat.le_trans (Nat.sub_le _ _) (Nat.min_le_right _ _)) (Nat.le_refl n)) (Nat.le_trans (Nat.sub_le _ _) (Nat.min_le_right _ _))) (show a + n + a ≤ 16777216 + 1 by omega)
theorem set_slice {l b sl : Addr} {items new : Array Value} {vl vu : Value} {lo hi : Option Int} {Q : Unit → Shared → Prop} (hl : s.heap.IsList l items) (hb : s.heap.IsList b new) (hne : l ≠ b)
    (hs : s.heap.IsSliceOf sl vl vu .none) (pl : IsPart vl lo) (pu : IsPart vu hi)
    (h : Q () { s with heap := s.heap.update l (Obj.mapSeq fun xs => xs.extract 0 (sliceBounds lo hi none items.size).1.toNat ++ new ++ xs.extract (max (sliceBounds lo hi none items.size).1 (sliceBounds lo hi none items.size).2.1).toNat xs.size) })
    (hsz : items.size + new.size ≤ 1000000) : wpAny (model prog w) A (setItem (.ref l) (.ref sl) (.ref b)) Q E s := by
  obtain ⟨o, ho, hc, ne, hd⟩ := id hl
  obtain ⟨ob, hob, hcb, nb, hdb⟩ := id hb
  obtain ⟨os, hos, hcs, hds⟩ := id hs
  have hTs : s.TypeIs (.ref sl) "slice" := ⟨os, hos, hcs⟩
  have hTb : s.TypeIs (.ref b) "list" := ⟨ob, hob, hcb⟩
  unfold setItem
  try with_reducible refine wpAny_holding ?_
  first | refine wpAny_bind (wpAny_pure ?_) | skip
  refine wpAny_bind (wpAny_sequenceKey hl.typeIs (by decide) ?_)
  refine wpAny_bind (wpAny_callSpecial?_slot (name := Str.ofString "__setitem__") hl.typeIs slot_list_setitem
    (wpAny_call_entry slot_list_setitem hl.typeIs entry_list_setitem ?_ (args_list_setitem _ _ _)))
  show wpAny _ _ (Builtin.List.listSubscript? (.ref sl) >>= _) _ _ s
  refine wpAny_bind ?_
  unfold Builtin.List.listSubscript?
  refine wpAny_bind (wpAny_specialOf hTs slice_no_index ?_)
  simp only [Option.isNone_none, if_true]
  refine wpAny_pure ?_
  show wpAny _ _ (typeOf (.ref sl) >>= _) _ _ s
  refine wpAny_bind (wpAny_typeOf hTs ?_)
  rw [if_neg (by decide)]
  rw [listSliceParts_eq]
  refine wpAny_bind (wpAny_bind (wpAny_field hos hds (x := .none) rfl (wpAny_bind (wpAny_listPart .none ?_))))
  rw [if_neg (show ¬ ((rawPart none == rawInt 0) = true) from Bool.false_ne_true)]
  refine wpAny_bind (wpAny_field hos hds (x := vl) rfl (wpAny_bind (wpAny_listPart pl ?_)))
  refine wpAny_bind (wpAny_field hos hds (x := vu) rfl (wpAny_bind (wpAny_listPart pu (wpAny_pure ?_))))
  have hsame : Builtin.List.listSameRef (.ref l) (.ref b) = false := by
    unfold Builtin.List.listSameRef
    simp [hne]
  rw [if_neg (show ¬ (Builtin.List.listSameRef (.ref l) (.ref b) = true) by rw [hsame]; exact Bool.false_ne_true)]
  refine wpAny_bind ?_
  unfold Builtin.List.listAllItems
  refine wpAny_bind (wpAny_typeOf hTb ?_)
  rw [if_pos (by decide)]
  refine wpAny_bind ?_
  unfold Builtin.List.listItems
  refine wpAny_seqItems hob hdb (wpAny_pure ?_)
  refine wpAny_bind (wpAny_bind (wpAny_seqItems ho hd (wpAny_pure ?_)))
  refine wpAny_bind (wpAny_of_eq (sliceIndices_raw lo hi none items.size (by simp)) ?_)
  have e1 : ((sliceBounds lo hi none items.size).2.2 == 1) = true := rfl
  rw [if_pos e1]
  refine wpAny_bind (wpAny_rule ?_)
  rw [if_neg (by unfold Builtin.List.listTooLong; rw [decide_eq_true_eq, sizeLine_eq]; show ¬ items.size + new.size > _; omega)]
  refine wpAny_bind (m := Builtin.List.listUpdate (.ref l) _) ?_
  refine wpAny_updateSeq ho hd ?_ (by rw [sizeLine_eq]; omega) ?_
  · refine wpAny_bind (wpAny_letGo (wpAny_pure ⟨.none, rfl, wpAny_pure h⟩))
  · simp only [Array.size_append, Array.size_extract, sizeLine_eq]
    exact slice_fit hsz
end
end Mine
namespace Mine
section
variable {K : Frag} {c : Cx} {A : Around} {env : Env} {nm : List (Str × NameKind)} {L : Addr} {cl : List (Str × Addr)} {g h : Heap} {n : Nat} {m : Str → Option Value} {ls ls' : List (Str × Option AV)} {l l' : List (Addr × AObj)}
noncomputable abbrev sliceO (a b k : Value) : Obj := { cls := .type "slice", data := .fields #[a, b, k] }
theorem p_none {Q : Value → Heap → Prop} (q : Q .none h) : W c A (evalPart none env) h Q := W.pure q
theorem p_some {e : Expr} {Q : Value → Heap → Prop} (k : W c A (eval e env) h Q) : W c A (evalPart (some e) env) h Q := k
theorem e_slice {lower upper step : Option Expr} {p : Pos} {Q : Value → Heap → Prop}
    (k : W c A (evalPart lower env) h (fun a h₁ => W c A (evalPart upper env) h₁ (fun b h₂ => W c A (evalPart step env) h₂ (fun st h₃ => ∀ sl h₄, (∀ g L m ls l, ST c g L m ls h₃ l → ST c g L m ls h₄ ((sl, .raw (sliceO a b st)) :: l)) → Q (.ref sl) h₄)))) :
    W c A (eval (.Slice lower upper step p) env) h Q := fun tk =>
  wpAny_Slice (k.use fun a h1 tk1 q => q.use fun b h2 tk2 q2 => q2.use fun st h3 tk3 q3 => ⟨_, _, rfl, q3 _ _ fun g L m ls l D => D.alloc (x := .raw _) rfl rfl⟩)
noncomputable def pickA (vs : List AV) (lo hi st : Option Int) : List AV := (sliceRange (sliceBounds lo hi st vs.length).1 (sliceBounds lo hi st vs.length).2.1 (sliceBounds lo hi st vs.length).2.2).filterMap (vs[·]?)
theorem AVs.places {vs : List AV} {ws : List Value} (h : AVs vs ws) : ∀ ks : List Nat, AVs (ks.filterMap (vs[·]?)) (ks.filterMap (ws[·]?))
  | [] => .nil
  | k :: ks => by
    rw [List.filterMap_cons, List.filterMap_cons]
    cases e : vs[k]? with
    | none =>
      have : ws[k]? = none := by rw [List.getElem?_eq_none_iff] at e ⊢; rw [← h.length]; exact e
      rw [this]; exact h.places ks
    | some x =>
      obtain ⟨v, h1, h2⟩ := h.get e
      rw [h1]; exact .cons h2 (h.places ks)
theorem AVs.pick {vs : List AV} {ws : List Value} (h : AVs vs ws) (lo hi st : Option Int) : AVs (pickA vs lo hi st) (slicePick ws.toArray lo hi st).toList := by
  unfold pickA slicePick
  rw [h.length]
  simpa using h.places _
theorem mapSeq_lst (f : Array Value → Array Value) (a : Array Value) (n : Nat) : ∃ n', Obj.mapSeq f (PySem.W.listOf a n) = PySem.W.listOf (f a) n' := ⟨_, rfl⟩
theorem s_slice {d b sl : Addr} {vs ws : List AV} {vl vu : Value} {lo hi : Option Int} {Q : Unit → Heap → Prop} (D : ST c g L m ls h l) (hb : (b, .lst ws) ∈ l) (hsl : (sl, .raw (sliceO vl vu .none)) ∈ l) (hne : d ≠ b)
    (pl : IsPart vl lo) (pu : IsPart vu hi) (hz : vs.length + ws.length ≤ 1000000)
    (u : UpdA d (.lst vs) (.lst (vs.take (sliceBounds lo hi none vs.length).1.toNat ++ ws ++ vs.drop (max (sliceBounds lo hi none vs.length).1 (sliceBounds lo hi none vs.length).2.1).toNat)) l l')
    (q : ∀ h', ST c g L m ls h' l' → Q () h') : W c A (setItem (.ref d) (.ref sl) (.ref b)) h Q := fun tk => by
  obtain ⟨xs, n1, h2, h3⟩ := D.lst u.memOld
  obtain ⟨ys, n2, h4, h5⟩ := D.lst hb
  obtain ⟨o, h6, h7⟩ := D.at hsl
  cases h7
  have l1 := h3.length
  have l2 := h5.length
  refine set_slice (s := ⟨h, c.g, c.d, tk, c.o⟩) (PySem.IsL.isList (n := n1) h2) (PySem.IsL.isList (n := n2) h4) hne ⟨_, h6, rfl, rfl⟩ pl pu ⟨_, tk, rfl, q _ (D.update u _ fun o ho hx => ?_)⟩ (by rw [List.size_toArray, List.size_toArray, ← l1, ← l2]; exact hz)
  rw [h2] at ho
  cases ho
  rw [List.size_toArray, ← l1]
  have key := ((h3.take (sliceBounds lo hi none vs.length).1.toNat).append h5).append (h3.drop (max (sliceBounds lo hi none vs.length).1 (sliceBounds lo hi none vs.length).2.1).toNat)
  obtain ⟨n', e⟩ := mapSeq_lst (fun a => a.extract 0 (sliceBounds lo hi none vs.length).1.toNat ++ ys.toArray ++ a.extract (max (sliceBounds lo hi none vs.length).1 (sliceBounds lo hi none vs.length).2.1).toNat a.size) xs.toArray n1
  rw [e]
  refine ⟨⟨_, n', ?_, key⟩, rfl⟩
  congr 1
  apply Array.toList_inj.mp
  simp
  exact List.take_of_length_le (by simp)
end
end Mine
namespace Mine
section
variable {K : Frag} {c : Cx} {A : Around} {env : Env} {nm : List (Str × NameKind)} {L : Addr} {cl : List (Str × Addr)} {g h : Heap} {n : Nat} {m : Str → Option Value} {ls ls' : List (Str × Option AV)} {l l' : List (Addr × AObj)}
theorem l_extend {d b : Addr} {vs ws : List AV} {Q : Value → Heap → Prop} (D : ST c g L m ls h l) (hb : (b, .lst ws) ∈ l) (u : UpdA d (.lst vs) (.lst (vs ++ ws)) l l') (hz : vs.length + ws.length ≤ 1000000) (q : ∀ h', ST c g L m ls h' l' → Q .none h') :
    W c A (call (.builtin "list.extend") [.ref d, .ref b]) h Q := fun tk => by
  obtain ⟨xs, n1, r, hr, F, N, hm, hv, up⟩ := D.listU u
  obtain ⟨o, h1, ys, n2, rfl, hy⟩ := hr.mem hb
  have l1 := hv.length
  have l2 := hy.length
  have hlong : ¬(!xs.toArray.isEmpty && Builtin.List.listTooLong (xs.toArray.size + ys.toArray.size)) = true := by
    unfold Builtin.List.listTooLong
    simp only [Bool.and_eq_true, decide_eq_true_eq, sizeLine_eq, List.size_toArray, ← l1, ← l2]
    omega
  by_cases hne : ys = []
  · subst hne
    cases hy
    obtain ⟨r', U, k⟩ := up xs n1 (by rw [List.append_nil]; exact hv)
    exact kxn_extend (s := ⟨h, c.g, c.d, tk, c.o⟩) F N h1 rfl U hlong (by rw [sizeLine_eq]; simp; omega) (by rw [sizeLine_eq]; simp; omega) fun h' F' N' => ⟨h', tk, rfl, q h' (k h' F' N')⟩
  · obtain ⟨r', U, k⟩ := up (xs ++ ys) (n1 + 1) (hv.append hy)
    exact kl_extend (s := ⟨h, c.g, c.d, tk, c.o⟩) F N h1 rfl (by simpa using hne) U hlong (by rw [sizeLine_eq]; simp; omega) (by rw [sizeLine_eq]; simp; omega) fun h' F' N' => ⟨h', tk, rfl, q h' (k h' F' N')⟩
theorem kf_of {ns : List Int} : ∀ {ws : List Value}, AVs (ns.map .int) ws → kf_ints ws = true ∧ ∀ k, kf_at k ws = ns.idxOf? k := by
  induction ns with
  | nil => intro ws h; cases h; exact ⟨rfl, fun _ => rfl⟩
  | cons a ns ih =>
    intro ws h
    cases h with
    | cons hx hr =>
      obtain ⟨t, rfl⟩ := hx
      obtain ⟨h1, h2⟩ := ih hr
      refine ⟨h1, fun k => ?_⟩
      show cond (a == k) (some 0) (match kf_at k _ with | some j => some (j + 1) | none => none) = _
      rw [h2 k, List.idxOf?_cons]
      cases a == k with
      | true => rfl
      | false => cases ns.idxOf? k <;> rfl
theorem l_index {d : Addr} {ns : List Int} {k : Int} {t : Tok} {j : Nat} {Q : Value → Heap → Prop} (D : ST c g L m ls h l) (hm : (d, .lst (ns.map .int)) ∈ l) (e : ns.idxOf? k = some j) (hz : ns.length ≤ 1000000) (q : ∀ t', Q (.int j t') h) :
    W c A (call (.builtin "list.index") [.ref d, .int k t]) h Q := fun tk => by
  obtain ⟨r, hr, N⟩ := D.ld.nw
  obtain ⟨o, h1, ws, n', rfl, hv⟩ := hr.mem hm
  have hl := hv.length
  rw [List.length_map] at hl
  obtain ⟨k1, k2⟩ := kf_of hv
  exact kf_index (s := ⟨h, c.g, c.d, tk, c.o⟩) N h1 k1 (by rw [← e]; exact k2 k) rfl (by rw [sizeLine_eq]; simp; omega) ⟨_, _, rfl, q _⟩
theorem l_remove {d : Addr} {ns : List Int} {k : Int} {t : Tok} {j : Nat} {Q : Value → Heap → Prop} (D : ST c g L m ls h l) (e : ns.idxOf? k = some j) (hz : ns.length ≤ 1000000) (u : UpdA d (.lst (ns.map .int)) (.lst ((ns.eraseIdx j).map .int)) l l')
    (q : ∀ h', ST c g L m ls h' l' → Q .none h') : W c A (call (.builtin "list.remove") [.ref d, .int k t]) h Q := fun tk => by
  obtain ⟨ws, n1, r, hr, F, N, hm, hv, up⟩ := D.listU u
  have hl := hv.length
  rw [List.length_map] at hl
  obtain ⟨k1, k2⟩ := kf_of hv
  have key : ∀ {ns : List Int} {ws : List Value} {j : Nat}, AVs (ns.map .int) ws → j < ns.length → ∃ q, ki_delL ws j = some q ∧ AVs ((ns.eraseIdx j).map .int) q := by
    intro ns
    induction ns with
    | nil => intro ws j _ hj; simp at hj
    | cons a ns ih =>
      intro ws j h hj
      cases h with
      | cons hx hr =>
        cases j with
        | zero => exact ⟨_, rfl, hr⟩
        | succ j =>
          obtain ⟨q, h1, h2⟩ := ih hr (by simpa using hj)
          refine ⟨_ :: q, ?_, .cons hx h2⟩
          show (match ki_delL _ j with | some q => some (_ :: q) | none => none) = _
          rw [h1]
  have hj : j < ns.length := by
    have := (kf_at_spec (k2 k ▸ e : kf_at k ws = some j)).1
    omega
  obtain ⟨qs, h4, h5⟩ := key hv hj
  obtain ⟨r', U, kk⟩ := up qs (n1 + 1) h5
  exact kf_remove (s := ⟨h, c.g, c.d, tk, c.o⟩) F N k1 (by rw [← e]; exact k2 k) h4 U (by rw [sizeLine_eq]; simp; omega) fun h' F' N' => ⟨h', tk, rfl, q h' (kk h' F' N')⟩
end
end Mine
namespace Mine
section
variable {K : Frag} {c : Cx} {A : Around} {env : Env} {nm : List (Str × NameKind)} {L : Addr} {cl : List (Str × Addr)} {g h : Heap} {n : Nat} {m : Str → Option Value} {ls ls' : List (Str × Option AV)} {l l' : List (Addr × AObj)}
theorem cw_t1 {T : String} {e : Expr} {rest : List Expr} {env : Env} {pos : Pos} {Q : Value → Heap → Prop} (k : W c A (spliced (backTo pos (starEach (e :: rest) env))) h (fun vs h₁ => W c A (call (.type T) vs) h₁ Q))
    (he : starEach (e :: rest) env = (false, eval e env) :: starEach rest env) (hplain : (backTo pos (starEach rest env)).any (·.1) = false) :
    W c A (callWith pos (.type T) [] (backTo pos (starEach (e :: rest) env)) []) h Q := fun tk => PyProof.Rows.callWith_type1 (k.use fun v h' tk' q => q tk') he hplain
theorem l_copy {b : Addr} {ws : List AV} {Q : Value → Heap → Prop} (D : ST c g L m ls h l) (hb : (b, .lst ws) ∈ l) (hz : ws.length ≤ 1000000) (q : ∀ r h', ST c g L m ls h' ((r, .lst ws) :: l) → Q (.ref r) h') :
    W c A (call (.type "list") [.ref b]) h Q := fun tk => by
  obtain ⟨r, hr, N⟩ := D.ld.nw
  obtain ⟨o, h1, ys, n2, rfl, hy⟩ := hr.mem hb
  have l2 := hy.length
  refine kup_listOf (s := ⟨h, c.g, c.d, tk, c.o⟩) D.ld.fr N h1 rfl (fun d c' h' F' N' hlt => ⟨h', tk, rfl, q d h' ⟨D.lo, F', List.nodup_cons.mpr ⟨fun hm => ?_, D.ld.nd⟩, _, .cons ⟨ys, c', rfl, hy⟩ hr, N'⟩⟩) (by rw [sizeLine_eq]; simp; omega)
  rw [← hr.keys] at hm
  obtain ⟨p, hp, rfl⟩ := List.mem_map.mp hm
  exact absurd (hlt p hp) (Nat.lt_irrefl _)
end
end Mine
namespace Mine
section
variable {K : Frag} {c : Cx} {A : Around} {env : Env} {nm : List (Str × NameKind)} {L : Addr} {cl : List (Str × Addr)} {g h : Heap} {n : Nat} {m : Str → Option Value} {ls ls' : List (Str × Option AV)} {l l' : List (Addr × AObj)}
theorem FO.under {C : Addr} {pos : List Value} {kw : List (Str × Value)} (f : FO K c A env nm L cl g (n + 1)) : FO K c (A.under (.builtin "type.__call__" ⟨.ref C :: pos, kw⟩)) env nm L cl g n := by
  refine ⟨f.X, f.T, ?_, f.env_, f.nms, f.cnd, ?_, ?_, f.hh, f.sm⟩
  · obtain ⟨A₀, base, outer, B, hA⟩ := f.B
    exact ⟨A₀, base, outer, B, by show _ = _; exact hA⟩
  · have := f.dp
    have e : (Code.builtin "type.__call__" ⟨.ref C :: pos, kw⟩).weight = 1 := by rfl
    show A.depth + _ + n ≤ 900
    rw [e]; omega
  · have := f.un
    have e : (Code.builtin "type.__call__" ⟨.ref C :: pos, kw⟩).cUnits = 1 := by rfl
    show A.units + _ + 100 * n ≤ 9000
    rw [e]; omega
end
end Mine
namespace Mine
section
variable {K : Frag} {c : Cx} {A : Around} {env : Env} {nm : List (Str × NameKind)} {L : Addr} {cl : List (Str × Addr)} {g h : Heap} {n : Nat} {m : Str → Option Value} {ls ls' : List (Str × Option AV)} {l l' : List (Addr × AObj)}
theorem c_eqs {x y : Str} {t u : Tok} {Q : Value → Heap → Prop} (q : Q (.bool (x.cps.toList == y.cps.toList)) h) : W c A (compareOp .Eq (.str x t) (.str y u)) h Q := fun tk => PySem.P.eq_str ⟨_, _, rfl, q⟩
theorem max2 {a b : Int} {t u : Tok} {Q : Value → Heap → Prop} (f : FO K c A env nm L cl g n) (D : ST c g L m ls h l) (q : ∀ t' h', ST c g L m ls h' l → Q (.int (if b > a then b else a) t') h') : W c A (call (.builtin "max") [.int a t, .int b u]) h Q := fun tk => by
  obtain ⟨r, hr, N⟩ := D.ld.nw
  exact max_two_N (s := ⟨h, c.g, c.d, tk, c.o⟩) f.hh D.ld.fr N fun h' tk' F' N' => ⟨h', tk', rfl, q _ h' ⟨D.lo, F', D.ld.nd, r, hr, N'⟩⟩
theorem min2 {a b : Int} {t u : Tok} {Q : Value → Heap → Prop} (f : FO K c A env nm L cl g n) (D : ST c g L m ls h l) (q : ∀ t' h', ST c g L m ls h' l → Q (.int (if b < a then b else a) t') h') : W c A (call (.builtin "min") [.int a t, .int b u]) h Q := fun tk => by
  obtain ⟨r, hr, N⟩ := D.ld.nw
  exact min_two_N (s := ⟨h, c.g, c.d, tk, c.o⟩) f.hh D.ld.fr N fun h' tk' F' N' => ⟨h', tk', rfl, q _ h' ⟨D.lo, F', D.ld.nd, r, hr, N'⟩⟩
theorem b_sadd {x y : Str} {t u : Tok} {Q : Value → Heap → Prop} (hz : x.length + y.length ≤ 1000000) (q : ∀ t', Q (.str (x ++ y) t') h) : W c A (binaryOp .Add (.str x t) (.str y u)) h Q := fun tk => PyProof.Rows.add_str (s := ⟨h, c.g, c.d, tk, c.o⟩) (fun t' tk' => ⟨_, _, rfl, q t'⟩) (by rw [sizeLine_eq]; omega)
end
end Mine
namespace Mine
section
variable {K : Frag} {c : Cx} {A : Around} {env : Env} {nm : List (Str × NameKind)} {L : Addr} {cl : List (Str × Addr)} {g h : Heap} {n : Nat} {m : Str → Option Value} {ls ls' : List (Str × Option AV)} {l l' : List (Addr × AObj)}
theorem d_sorted0 {d : Addr} {Q : Value → Heap → Prop} (f : FO K c A env nm L cl g n) (D : ST c g L m ls h l) (hm : (d, .idict []) ∈ l) (q : ∀ r h', ST c g L m ls h' ((r, .lst []) :: l) → Q (.ref r) h') :
    W c A (call (.builtin "sorted") [.ref d]) h Q := fun tk => by
  obtain ⟨r, hr, N⟩ := D.ld.nw
  obtain ⟨o, h1, kws, h2, h3⟩ := hr.mem hm
  cases h3
  have hd := kda_dict (s := ⟨h, c.g, c.d, tk, c.o⟩) N h1 h2
  refine kdu_sortedD (s := ⟨h, c.g, c.d, tk, c.o⟩) (knd := intKind c.prog c.w) (enc := PyData.int) (D := []) ?_ f.hh D.ld.fr N ⟨D.notMod f hm, [], hd, .nil⟩ (by simp) fun B h' tk' => ?_
  · intro k v hk
    cases v <;> first | (simp [intKind, Value.isInt] at hk; done) | skip
    rename_i i t
    have : i = k := by simpa [intKind, Value.isInt] using hk
    subst this
    exact PyProof.V.Flat.int i t
  · intro F' N' hlt
    have hB := N' _ (.head _)
    refine wpAny_call_entry PySem.F.slot_list_sort ⟨_, hB.1, rfl⟩ PySem.F.entry_list_sort ?_ (PySem.F.args_list_sort_1 _)
    have hout : ∀ b o, b ∉ [B] → h'.get? b = some o → (sortedHeap h' B [] #[]).get? b = some o := fun b o hb e => by
      rw [sortedHeap_old (by simpa using hb) (Heap.lt_size e)]; exact e
    have hoff : ∀ p ∈ r, p.1 ≠ B := fun p hp => Nat.ne_of_lt (hlt p hp)
    refine list_sort_tree (vs := []) (ns := []) (n := 0) hB.1 .nil (by simp) fun out ns' hI hp _ => ?_
    have e1 : ns' = [] := List.Perm.eq_nil hp
    subst e1
    have e2 : out = #[] := by
      cases hI' : out.toList with
      | nil => exact Array.toList_inj.mp hI'
      | cons a b => rw [hI'] at hI; cases hI
    subst e2
    obtain ⟨e, he⟩ := sortedHeap_at (vs := []) (out := #[]) hB.1
    have F2 := LCg.fr_but F' hout (Ne.symm hB.2.1) hB.2.2
    have N2 : News g L (sortedHeap h' B [] #[]) ((B, PySem.W.listOf #[] e) :: r) := fun p hp => by
      rcases List.mem_cons.mp hp with rfl | hp
      · exact ⟨he, hB.2⟩
      · exact LCg.news_but (N := fun p hp => N' p (.tail _ hp)) hout hoff p hp
    refine ⟨.none, rfl, _, _, rfl, q B _ ⟨D.lo, F2, List.nodup_cons.mpr ⟨fun hm => ?_, D.ld.nd⟩, _, .cons ⟨[], e, rfl, .nil⟩ hr, N2⟩⟩
    rw [← hr.keys] at hm
    obtain ⟨p, hp', e⟩ := List.mem_map.mp hm
    exact hoff p hp' e
end
end Mine
namespace Mine
inductive RDs (l : List (Addr × AObj)) : List AV → List PyData → Prop
  | nil : RDs l [] []
  | none {xs ds} : RDs l xs ds → RDs l (.none :: xs) (.none :: ds)
  | bool {b xs ds} : RDs l xs ds → RDs l (.bool b :: xs) (.bool b :: ds)
  | int {i xs ds} : RDs l xs ds → RDs l (.int i :: xs) (.int i :: ds)
  | str {s xs ds} : RDs l xs ds → RDs l (.str s :: xs) (.str s :: ds)
  | lst {a vs es xs ds} : (a, .lst vs) ∈ l → RDs l vs es → RDs l xs ds → RDs l (.ref a :: xs) (.list es :: ds)
  | tup {a vs es xs ds} : (a, .tup vs) ∈ l → RDs l vs es → RDs l xs ds → RDs l (.ref a :: xs) (.tuple es :: ds)
section
variable {K : Frag} {c : Cx} {A : Around} {env : Env} {nm : List (Str × NameKind)} {L : Addr} {cl : List (Str × Addr)} {g h : Heap} {n : Nat} {m : Str → Option Value} {ls ls' : List (Str × Option AV)} {l l' : List (Addr × AObj)}
theorem RDs.reads (D : ST c g L m ls h l) {xs : List AV} {ds : List PyData} (r : RDs l xs ds) : ∀ {vs : List Value}, AVs xs vs → ∃ as, ReadsAll h vs ds as := by
  induction r with
  | nil => intro vs e; cases e; exact ⟨_, .nil⟩
  | none _ ih => intro vs e; cases e with | cons hx hr => cases hx; obtain ⟨as, q⟩ := ih hr; exact ⟨_, .cons .none q⟩
  | bool _ ih => intro vs e; cases e with | cons hx hr => cases hx; obtain ⟨as, q⟩ := ih hr; exact ⟨_, .cons (.bool _) q⟩
  | int _ ih => intro vs e; cases e with | cons hx hr => obtain ⟨t, rfl⟩ := hx; obtain ⟨as, q⟩ := ih hr; exact ⟨_, .cons (.int _ _) q⟩
  | str _ ih => intro vs e; cases e with | cons hx hr => obtain ⟨t, rfl⟩ := hx; obtain ⟨as, q⟩ := ih hr; exact ⟨_, .cons (.str _ _) q⟩
  | lst hm _ _ ih1 ih2 =>
    intro vs e
    cases e with
    | cons hx hr =>
      cases hx
      obtain ⟨ws, n', e1, e2⟩ := D.lst hm
      obtain ⟨as1, q1⟩ := ih1 e2
      obtain ⟨as2, q2⟩ := ih2 hr
      exact ⟨_, .cons (reads_list_at e1 rfl rfl (by simpa using q1)) q2⟩
  | tup hm _ _ ih1 ih2 =>
    intro vs e
    cases e with
    | cons hx hr =>
      cases hx
      obtain ⟨o, e1, ws, n', e3, e2⟩ := D.at hm
      subst e3
      obtain ⟨as1, q1⟩ := ih1 e2
      obtain ⟨as2, q2⟩ := ih2 hr
      exact ⟨_, .cons (reads_tuple_at e1 rfl rfl (by simpa using q1)) q2⟩
theorem c_neD {x y : AV} {v u : Value} {d e : PyData} {Q : Value → Heap → Prop} (f : FO K c A env nm L cl g n) (D : ST c g L m ls h l) (hv : x.is v) (hu : y.is u) (r1 : RDs l [x] [d]) (r2 : RDs l [y] [e]) (h1 : PySem.SeqAt.shaped d = true) (h2 : PySem.SeqAt.shaped e = true)
    (q : Q (.bool (!PyData.eqv d e)) h) : W c A (compareOp .NotEq v u) h Q := fun tk => by
  obtain ⟨as, q1⟩ := r1.reads D (.one hv)
  obtain ⟨bs, q2⟩ := r2.reads D (.one hu)
  cases q1 with
  | cons a1 _ =>
  cases q2 with
  | cons a2 _ =>
  exact ne_dataH (s := ⟨h, c.g, c.d, tk, c.o⟩) a1 a2 h1 h2 (by have := f.un; unfold cLine; omega) ⟨_, _, rfl, q⟩
theorem c_eqD {x y : AV} {v u : Value} {d e : PyData} {Q : Value → Heap → Prop} (f : FO K c A env nm L cl g n) (D : ST c g L m ls h l) (hv : x.is v) (hu : y.is u) (r1 : RDs l [x] [d]) (r2 : RDs l [y] [e]) (h1 : PySem.SeqAt.shaped d = true) (h2 : PySem.SeqAt.shaped e = true)
    (q : Q (.bool (PyData.eqv d e)) h) : W c A (compareOp .Eq v u) h Q := fun tk => by
  obtain ⟨as, q1⟩ := r1.reads D (.one hv)
  obtain ⟨bs, q2⟩ := r2.reads D (.one hu)
  cases q1 with
  | cons a1 _ =>
  cases q2 with
  | cons a2 _ =>
  exact eq_dataH (s := ⟨h, c.g, c.d, tk, c.o⟩) a1 a2 h1 h2 (by have := f.un; unfold cLine; omega) ⟨_, _, rfl, q⟩
end
end Mine
namespace Mine
noncomputable def plainPar (p : Arguments) : Bool := p.posonlyargs.isEmpty && p.vararg.isNone && p.kwonlyargs.isEmpty && p.kwarg.isNone
theorem lookup_zip {ns : List Str} {vs : List Value} (nd : ns.Nodup) (hl : vs.length ≤ ns.length) : (ns.filterMap fun n => ((ns.zip vs).lookup n).map (n, ·)) = ns.zip vs := by
  induction ns generalizing vs with
  | nil => cases vs <;> rfl
  | cons a ns ih =>
    rw [List.nodup_cons] at nd
    cases vs with
    | nil => simp [List.filterMap_eq_nil_iff]
    | cons v vs =>
      have hl' : vs.length ≤ ns.length := by simpa using hl
      rw [List.zip_cons_cons, List.filterMap_cons, List.lookup_cons]
      simp only [beq_self_eq_true, Option.map_some]
      refine congrArg _ ?_
      refine Eq.trans ?_ (ih nd.2 hl')
      have : ∀ n ∈ ns, (n == a) = false := fun n hn => beq_eq_false_iff_ne.mpr fun e => nd.1 (e ▸ hn)
      clear ih hl nd hl'
      generalize ns.zip vs = z
      induction ns with
      | nil => rfl
      | cons b ns ih =>
        rw [List.filterMap_cons, List.filterMap_cons, List.lookup_cons, this b (.head _), ih fun n hn => this n (.tail _ hn)]
theorem lookup_isSome_zip : ∀ {ns : List Str} {vs : List Value} {n : Str}, n ∈ ns.take vs.length → ((ns.zip vs).lookup n).isNone = false
  | [], _, _, h => by simp at h
  | _ :: _, [], _, h => by simp at h
  | a :: ns, v :: vs, n, h => by
    rw [List.zip_cons_cons, List.lookup_cons]
    by_cases e : n = a
    · subst e; simp
    · have : (n == a) = false := beq_eq_false_iff_ne.mpr e
      rw [this]
      simp only [List.length_cons, List.take_succ_cons, List.mem_cons] at h
      exact lookup_isSome_zip (h.resolve_left e)
theorem lookup_isNone_of {l : List (Str × Value)} {n : Str} (h : n ∉ l.map (·.1)) : (l.lookup n).isNone = true := by
  induction l with
  | nil => rfl
  | cons p l ih =>
    simp only [List.map_cons, List.mem_cons, not_or] at h
    obtain ⟨a, b⟩ := p
    rw [List.lookup_cons, beq_eq_false_iff_ne.mpr h.1]
    exact ih h.2
noncomputable def fillStep (sl : List (Str × Value)) (x : Str × Value) : List (Str × Value) := if (sl.lookup x.1).isNone then sl ++ [(x.1, x.2)] else sl
theorem fill_skip : ∀ {l sl : List (Str × Value)}, (∀ x ∈ l, (sl.lookup x.1).isNone = false) → l.foldl fillStep sl = sl
  | [], _, _ => rfl
  | x :: l, sl, h => by
    have e : fillStep sl x = sl := by unfold fillStep; rw [h x (.head _)]; rfl
    rw [List.foldl_cons, e, fill_skip fun y hy => h y (.tail _ hy)]
theorem fill_add : ∀ {l sl : List (Str × Value)}, ((sl ++ l).map (·.1)).Nodup → l.foldl fillStep sl = sl ++ l
  | [], sl, _ => by simp
  | x :: l, sl, h => by
    have h' := h
    rw [List.map_append, List.map_cons, List.nodup_append] at h'
    have e : fillStep sl x = sl ++ [x] := by
      unfold fillStep
      rw [lookup_isNone_of fun hm => h'.2.2 x.1 hm x.1 (.head _) rfl]
      rfl
    rw [List.foldl_cons, e, fill_add (by rw [List.append_assoc]; exact h), List.append_assoc]
    rfl
theorem zip_fst_sub {α β : Type} : ∀ (a : List α) (b : List β), ((a.zip b).map (·.1)).Sublist a
  | [], _ => by simp
  | _ :: _, [] => by simp
  | x :: a, y :: b => by rw [List.zip_cons_cons, List.map_cons]; exact (zip_fst_sub a b).cons₂ x
theorem fill_parts {n0 n1 n2 : List Str} {pos D1 D2 : List Value} (nd : (n0 ++ n1 ++ n2).Nodup) (hk : pos.length = (n0 ++ n1).length) (h1 : D1.length = n1.length) (h2 : D2.length = n2.length) :
    ((n1 ++ n2).zip (D1 ++ D2)).foldl fillStep ((n0 ++ n1 ++ n2).zip pos) = (n0 ++ n1 ++ n2).zip (pos ++ D2) := by
  have ez : (n0 ++ n1 ++ n2).zip pos = (n0 ++ n1).zip pos := by
    conv => lhs; rw [← List.append_nil pos]
    rw [List.zip_append hk.symm]; simp
  have a : (n1.zip D1).foldl fillStep ((n0 ++ n1).zip pos) = (n0 ++ n1).zip pos := fill_skip fun x hx => by
    refine lookup_isSome_zip ?_
    rw [hk, List.take_length]
    obtain ⟨y, z⟩ := x
    exact List.mem_append_right _ (List.of_mem_zip hx).1
  rw [ez, List.zip_append h1.symm, List.foldl_append, a, fill_add, ← List.zip_append hk.symm]
  rw [List.map_append, List.map_fst_zip (by rw [hk]; exact Nat.le_refl _), List.map_fst_zip (by rw [h2]; exact Nat.le_refl _)]
  exact nd
theorem bind_core {fd : FuncData} {pos : List Value} {s : Shared} {n0 n1 n2 : List Str} {D1 D2 : List Value} (hp : plainPar fd.params = true) (hn : fd.params.args.map (·.arg) = n0 ++ n1 ++ n2) (nd : (n0 ++ n1 ++ n2).Nodup)
    (hk : pos.length = (n0 ++ n1).length) (h1 : D1.length = n1.length) (h2 : D2.length = n2.length)
    (hD : ∀ (M : Model) (A : Around) (E : Value → Shared → Prop) (Q : Option (Array Value) → Shared → Prop), (∀ o, (o.getD #[]).toList = D1 ++ D2 → Q o s) → wpAny M A (seqItems? fd.defaults) Q E s) :
    BindsTo s fd ⟨pos, []⟩ ((n0 ++ n1 ++ n2).zip (pos ++ D2)) := by
  intro M A E Q q
  unfold plainPar at hp
  simp only [Bool.and_eq_true, List.isEmpty_iff, Option.isNone_iff_eq_none] at hp
  obtain ⟨⟨⟨q1, q2⟩, q3⟩, q4⟩ := hp
  unfold bindArgs
  simp only [q1, q2, q3, q4, hn, List.map_nil, List.nil_append, List.append_nil, List.forIn_nil, pure_bind, bind_assoc]
  refine wpAny_bind (hD _ _ _ _ fun o ho => ?_)
  rw [ho]
  have hl : (D1 ++ D2).length = (n1 ++ n2).length := by simp [h1, h2]
  have hl2 : (n0 ++ n1 ++ n2).length = n0.length + (n1 ++ n2).length := by simp [Nat.add_assoc]
  have e1 : (D1 ++ D2).length - (n0 ++ n1 ++ n2).length = 0 := by rw [hl, hl2]; omega
  simp only [e1, List.drop_zero]
  have e2 : (n0 ++ n1 ++ n2).length - (D1 ++ D2).length = n0.length := by rw [hl, hl2]; omega
  simp only [e2]
  have e3 : (n0 ++ n1 ++ n2).drop n0.length = n1 ++ n2 := by rw [List.append_assoc, List.drop_left]
  have e4 : (n0 ++ n1 ++ n2).take n0.length = n0 := by rw [List.append_assoc, List.take_left]
  simp only [e3, e4]
  have e5 : ((n0 ++ n1 ++ n2).zip pos) = (n0 ++ n1).zip pos := by
    conv => lhs; rw [← List.append_nil pos]
    rw [List.zip_append hk.symm]; simp
  have e6 : n0.filter (fun n => (((n0 ++ n1 ++ n2).zip pos).lookup n).isNone) = [] := by
    rw [List.filter_eq_nil_iff]
    intro n hn'
    rw [e5, lookup_isSome_zip (by rw [hk, List.take_length]; exact List.mem_append_left _ hn')]
    exact Bool.false_ne_true
  simp only [e6, List.isEmpty_nil, Bool.not_true, Bool.false_eq_true, if_false, gt_iff_lt, Option.isNone_none, Bool.and_true, decide_eq_true_eq]
  rw [if_neg (by rw [hk]; simp)]
  have e7 : (forIn ((n1 ++ n2).zip (D1 ++ D2)) ((n0 ++ n1 ++ n2).zip pos) fun x sl => if (sl.lookup x.1).isNone = true then (pure (ForInStep.yield (sl ++ [(x.1, x.2)])) : Sem _) else pure (ForInStep.yield sl)) = pure ((n0 ++ n1 ++ n2).zip (pos ++ D2)) := by
    rw [← fill_parts nd hk h1 h2, ← List.forIn_pure_yield_eq_foldl]
    congr 1
    funext x sl
    unfold fillStep
    split <;> rfl
  rw [e7, pure_bind, lookup_zip nd (by simp [hk, h2]; omega)]
  exact wpAny_pure q
end Mine
namespace Mine
structure Rw where
  b : Int
  s : Int
  p : Int
  h : Int
inductive U where
  | none
  | bool (b : Bool)
  | int (i : Int)
  | str (s : Str)
  | loc (i : Nat)
  | glob (a : Addr)
  | tup (is : List Int)
  | rows (rs : List Rw)
  | nums (ns : List Int)
  | lam
inductive B where
  | inst (C : Addr) (dx : Nat)
  | attrs (fs : List (Str × U))
  | lst (vs : List U)
  | idict (kvs : List (Int × U))
  | cell (v : Option U)
  | raw (o : Obj)
structure Wd where
  σ : List Addr
  τ : List (Addr × AObj)
noncomputable abbrev LamP := Obj → Addr → Obj → Prop
noncomputable def Rw.is (r : Rw) : List Int := [r.b, r.s, r.p, r.h]
inductive RRs (τ : List (Addr × AObj)) : List Rw → List AV → Prop
  | nil : RRs τ [] []
  | cons {r a rs xs} : (a, .tup (r.is.map .int)) ∈ τ → RRs τ rs xs → RRs τ (r :: rs) (.ref a :: xs)
inductive UR (P : LamP) (ω : Wd) : U → AV → Prop
  | none : UR P ω .none .none
  | bool {b} : UR P ω (.bool b) (.bool b)
  | int {i} : UR P ω (.int i) (.int i)
  | str {s} : UR P ω (.str s) (.str s)
  | loc {i a} : ω.σ[i]? = some a → UR P ω (.loc i) (.ref a)
  | glob {a} : UR P ω (.glob a) (.ref a)
  | tup {is a} : (a, .tup (is.map .int)) ∈ ω.τ → UR P ω (.tup is) (.ref a)
  | rows {rs a xs} : (a, .lst xs) ∈ ω.τ → RRs ω.τ rs xs → UR P ω (.rows rs) (.ref a)
  | nums {ns a} : (a, .lst (ns.map .int)) ∈ ω.τ → UR P ω (.nums ns) (.ref a)
  | lam {a o c oc} : (a, .raw o) ∈ ω.τ → (c, .raw oc) ∈ ω.τ → P o c oc → UR P ω .lam (.ref a)
variable {P : LamP}
inductive URs (P : LamP) (ω : Wd) : List U → List AV → Prop
  | nil : URs P ω [] []
  | cons {v x vs xs} : UR P ω v x → URs P ω vs xs → URs P ω (v :: vs) (x :: xs)
inductive FRs (P : LamP) (ω : Wd) : List (Str × U) → List (Str × AV) → Prop
  | nil : FRs P ω [] []
  | cons {k v x vs xs} : UR P ω v x → FRs P ω vs xs → FRs P ω ((k, v) :: vs) ((k, x) :: xs)
inductive IRs (P : LamP) (ω : Wd) : List (Int × U) → List (Int × AV) → Prop
  | nil : IRs P ω [] []
  | cons {k v x vs xs} : UR P ω v x → IRs P ω vs xs → IRs P ω ((k, v) :: vs) ((k, x) :: xs)
inductive LRs (P : LamP) (ω : Wd) : List (Str × Option U) → List (Str × Option AV) → Prop
  | nil : LRs P ω [] []
  | nay {k vs xs} : LRs P ω vs xs → LRs P ω ((k, Option.none) :: vs) ((k, Option.none) :: xs)
  | yea {k v x vs xs} : UR P ω v x → LRs P ω vs xs → LRs P ω ((k, some v) :: vs) ((k, some x) :: xs)
inductive BR (P : LamP) (ω : Wd) : B → AObj → Prop
  | inst {C dx a} : ω.σ[dx]? = some a → BR P ω (.inst C dx) (.inst C a)
  | attrs {fs xs} : FRs P ω fs xs → BR P ω (.attrs fs) (.attrs xs)
  | lst {vs xs} : URs P ω vs xs → BR P ω (.lst vs) (.lst xs)
  | idict {vs xs} : IRs P ω vs xs → BR P ω (.idict vs) (.idict xs)
  | cell0 : BR P ω (.cell Option.none) (.cell Option.none)
  | cell1 {v x} : UR P ω v x → BR P ω (.cell (some v)) (.cell (some x))
  | raw {o} : BR P ω (.raw o) (.raw o)
inductive ZR (P : LamP) (ω : Wd) : List Addr → List B → List (Addr × AObj) → Prop
  | nil : ZR P ω [] [] []
  | cons {a o x as os l} : BR P ω o x → ZR P ω as os l → ZR P ω (a :: as) (o :: os) ((a, x) :: l)
noncomputable def Ext (ω ω' : Wd) : Prop := (∃ σ₁, ω'.σ = ω.σ ++ σ₁) ∧ ∀ p ∈ ω.τ, p ∈ ω'.τ
section
variable {ω ω' : Wd}
theorem Ext.refl : Ext ω ω := ⟨⟨[], by simp⟩, fun _ h => h⟩
theorem Ext.trans {ω'' : Wd} (e : Ext ω ω') (e' : Ext ω' ω'') : Ext ω ω'' := by
  obtain ⟨⟨a, h1⟩, h2⟩ := e; obtain ⟨⟨b, h3⟩, h4⟩ := e'
  exact ⟨⟨a ++ b, by rw [h3, h1, List.append_assoc]⟩, fun p hp => h4 p (h2 p hp)⟩
theorem Ext.get (e : Ext ω ω') {i : Nat} {a : Addr} (h : ω.σ[i]? = some a) : ω'.σ[i]? = some a := by
  obtain ⟨⟨τ, q⟩, _⟩ := e
  obtain ⟨hl, he⟩ := List.getElem?_eq_some_iff.mp h
  rw [q, List.getElem?_append_left hl]; exact h
theorem RRs.mono {τ τ' : List (Addr × AObj)} {rs : List Rw} {xs : List AV} (h : RRs τ rs xs) (e : ∀ p ∈ τ, p ∈ τ') : RRs τ' rs xs := by
  induction h with
  | nil => exact .nil
  | cons a _ ih => exact .cons (e _ a) ih
theorem UR.mono {v : U} {x : AV} (h : UR P ω v x) (e : Ext ω ω') : UR P ω' v x := by
  cases h with
  | loc q => exact .loc (e.get q)
  | none => exact .none
  | bool => exact .bool
  | int => exact .int
  | str => exact .str
  | glob => exact .glob
  | tup q => exact .tup (e.2 _ q)
  | rows q r => exact .rows (e.2 _ q) (r.mono e.2)
  | nums q => exact .nums (e.2 _ q)
  | lam q r p => exact .lam (e.2 _ q) (e.2 _ r) p
theorem URs.mono {v : List U} {x : List AV} (h : URs P ω v x) (e : Ext ω ω') : URs P ω' v x := by
  induction h with
  | nil => exact .nil
  | cons a _ ih => exact .cons (a.mono e) ih
theorem FRs.mono {v : List (Str × U)} {x : List (Str × AV)} (h : FRs P ω v x) (e : Ext ω ω') : FRs P ω' v x := by
  induction h with
  | nil => exact .nil
  | cons a _ ih => exact .cons (a.mono e) ih
theorem IRs.mono {v : List (Int × U)} {x : List (Int × AV)} (h : IRs P ω v x) (e : Ext ω ω') : IRs P ω' v x := by
  induction h with
  | nil => exact .nil
  | cons a _ ih => exact .cons (a.mono e) ih
theorem LRs.mono {v : List (Str × Option U)} {x : List (Str × Option AV)} (h : LRs P ω v x) (e : Ext ω ω') : LRs P ω' v x := by
  induction h with
  | nil => exact .nil
  | nay _ ih => exact .nay ih
  | yea a _ ih => exact .yea (a.mono e) ih
theorem BR.mono {o : B} {x : AObj} (h : BR P ω o x) (e : Ext ω ω') : BR P ω' o x := by
  cases h with
  | inst q => exact .inst (e.get q)
  | attrs q => exact .attrs (q.mono e)
  | lst q => exact .lst (q.mono e)
  | idict q => exact .idict (q.mono e)
  | cell0 => exact .cell0
  | cell1 q => exact .cell1 (q.mono e)
  | raw => exact .raw
theorem ZR.mono {as : List Addr} {os : List B} {l : List (Addr × AObj)} (h : ZR P ω as os l) (e : Ext ω ω') : ZR P ω' as os l := by
  induction h with
  | nil => exact .nil
  | cons a _ ih => exact .cons (a.mono e) ih
theorem ZR.snoc {as : List Addr} {os : List B} {l : List (Addr × AObj)} {a : Addr} {o : B} {x : AObj} (h : ZR P ω as os l) (q : BR P ω o x) : ZR P ω (as ++ [a]) (os ++ [o]) (l ++ [(a, x)]) := by
  induction h with
  | nil => exact .cons q .nil
  | cons p _ ih => exact .cons p ih
theorem ZR.len {as : List Addr} {os : List B} {l : List (Addr × AObj)} (h : ZR P ω as os l) : as.length = os.length := by
  induction h with
  | nil => rfl
  | cons _ _ ih => simp [ih]
theorem ZR.at {as : List Addr} {os : List B} {l : List (Addr × AObj)} (h : ZR P ω as os l) {i : Nat} {o : B} (e : os[i]? = some o) : ∃ a x, as[i]? = some a ∧ (a, x) ∈ l ∧ BR P ω o x := by
  induction h generalizing i with
  | nil => cases e
  | @cons a o' x as os l q _ ih =>
    cases i with
    | zero => simp only [List.getElem?_cons_zero, Option.some.injEq] at e; subst e; exact ⟨a, x, rfl, .head _, q⟩
    | succ i =>
      obtain ⟨b, y, h1, h2, h3⟩ := ih e
      exact ⟨b, y, h1, .tail _ h2, h3⟩
theorem ZR.set {as : List Addr} {os : List B} {l : List (Addr × AObj)} (h : ZR P ω as os l) {i : Nat} {o : B} (e : os[i]? = some o) : ∃ a x, as[i]? = some a ∧ BR P ω o x ∧ (a, x) ∈ l ∧
    ∀ o' x', BR P ω o' x' → ∃ l', UpdA a x x' l l' ∧ ZR P ω as (os.set i o') l' := by
  induction h generalizing i with
  | nil => cases e
  | @cons a o₁ x as os l q hr ih =>
    cases i with
    | zero => simp only [List.getElem?_cons_zero, Option.some.injEq] at e; subst e; exact ⟨a, x, rfl, q, .head _, fun o' x' q' => ⟨_, .head, .cons q' hr⟩⟩
    | succ i =>
      obtain ⟨b, y, h1, h2, h5, h3⟩ := ih e
      refine ⟨b, y, h1, h2, .tail _ h5, fun o' x' q' => ?_⟩
      obtain ⟨l', h3, h4⟩ := h3 o' x' q'
      exact ⟨_, .tail h3, .cons q h4⟩
theorem UpdA.append {d : Addr} {x x' : AObj} {l l' : List (Addr × AObj)} (u : UpdA d x x' l l') (r : List (Addr × AObj)) : UpdA d x x' (l ++ r) (l' ++ r) := by
  induction u with
  | head => exact .head
  | tail _ ih => exact .tail ih
theorem FRs.mem {fs : List (Str × U)} {xs : List (Str × AV)} (h : FRs P ω fs xs) {y : Str} {v : U} (e : fs.lookup y = some v) : ∃ x, (y, x) ∈ xs ∧ UR P ω v x := by
  induction h with
  | nil => cases e
  | @cons k v' x vs xs q _ ih =>
    rw [List.lookup_cons] at e
    split at e
    · rename_i hk
      have hk := eq_of_beq hk
      cases e; subst hk; exact ⟨x, .head _, q⟩
    · obtain ⟨x', h1, h2⟩ := ih e; exact ⟨x', .tail _ h1, h2⟩
theorem FRs.keys {fs : List (Str × U)} {xs : List (Str × AV)} (h : FRs P ω fs xs) : fs.map (·.1) = xs.map (·.1) := by
  induction h with
  | nil => rfl
  | cons _ _ ih => simp [ih]
theorem LRs.mem {fs : List (Str × Option U)} {xs : List (Str × Option AV)} (h : LRs P ω fs xs) {y : Str} {v : U} (e : fs.lookup y = some (some v)) : ∃ x, (y, some x) ∈ xs ∧ UR P ω v x := by
  induction h with
  | nil => cases e
  | nay _ ih =>
    rw [List.lookup_cons] at e
    split at e
    · cases e
    · obtain ⟨x', h1, h2⟩ := ih e; exact ⟨x', .tail _ h1, h2⟩
  | @yea k v' x vs xs q _ ih =>
    rw [List.lookup_cons] at e
    split at e
    · rename_i hk
      have hk := eq_of_beq hk
      cases e; subst hk; exact ⟨x, .head _, q⟩
    · obtain ⟨x', h1, h2⟩ := ih e; exact ⟨x', .tail _ h1, h2⟩
noncomputable def setLs (x : Str) (v : U) : List (Str × Option U) → List (Str × Option U)
  | [] => []
  | (y, o) :: r => match y == x with
    | true => (y, some v) :: r
    | false => (y, o) :: setLs x v r
theorem LRs.set {fs : List (Str × Option U)} {xs : List (Str × Option AV)} (h : LRs P ω fs xs) {y : Str} {v : U} {a : AV} (q : UR P ω v a) (hm : y ∈ fs.map (·.1)) : ∃ xs', UpdL y a xs xs' ∧ LRs P ω (setLs y v fs) xs' := by
  induction h with
  | nil => cases hm
  | @nay k vs xs hr ih =>
    unfold setLs
    cases hk : k == y with
    | true => have := eq_of_beq hk; subst this; exact ⟨_, .head, .yea q hr⟩
    | false =>
      rcases List.mem_cons.mp hm with rfl | hm
      · simp at hk
      · obtain ⟨xs', h1, h2⟩ := ih hm; exact ⟨_, .tail h1, .nay h2⟩
  | @yea k v' x vs xs q' hr ih =>
    unfold setLs
    cases hk : k == y with
    | true => have := eq_of_beq hk; subst this; exact ⟨_, .head, .yea q hr⟩
    | false =>
      rcases List.mem_cons.mp hm with rfl | hm
      · simp at hk
      · obtain ⟨xs', h1, h2⟩ := ih hm; exact ⟨_, .tail h1, .yea q' h2⟩
noncomputable def setFs (x : Str) (v : U) : List (Str × U) → List (Str × U)
  | [] => []
  | (y, o) :: r => match y == x with
    | true => (y, v) :: r
    | false => (y, o) :: setFs x v r
theorem FRs.set {fs : List (Str × U)} {xs : List (Str × AV)} (h : FRs P ω fs xs) {y : Str} {v : U} {a : AV} (q : UR P ω v a) (hm : y ∈ fs.map (·.1)) : ∃ xs', UpdF y a xs xs' ∧ FRs P ω (setFs y v fs) xs' := by
  induction h with
  | nil => cases hm
  | @cons k v' x vs xs q' hr ih =>
    unfold setFs
    cases hk : k == y with
    | true => have := eq_of_beq hk; subst this; exact ⟨_, .head, .cons q hr⟩
    | false =>
      rcases List.mem_cons.mp hm with rfl | hm
      · simp at hk
      · obtain ⟨xs', h1, h2⟩ := ih hm; exact ⟨_, .tail h1, .cons q' h2⟩
theorem FRs.snoc {fs : List (Str × U)} {xs : List (Str × AV)} (h : FRs P ω fs xs) {y : Str} {v : U} {a : AV} (q : UR P ω v a) : FRs P ω (fs ++ [(y, v)]) (xs ++ [(y, a)]) := by
  induction h with
  | nil => exact .cons q .nil
  | cons p _ ih => exact .cons p ih
theorem URs.get {vs : List U} {xs : List AV} (h : URs P ω vs xs) {i : Nat} {v : U} (e : vs[i]? = some v) : ∃ x, xs[i]? = some x ∧ UR P ω v x := by
  induction h generalizing i with
  | nil => cases e
  | cons q _ ih =>
    cases i with
    | zero => simp only [List.getElem?_cons_zero, Option.some.injEq] at e; subst e; exact ⟨_, rfl, q⟩
    | succ i => exact ih e
theorem URs.len {vs : List U} {xs : List AV} (h : URs P ω vs xs) : vs.length = xs.length := by
  induction h with
  | nil => rfl
  | cons _ _ ih => simp [ih]
theorem URs.append {vs ws : List U} {xs ys : List AV} (h : URs P ω vs xs) (k : URs P ω ws ys) : URs P ω (vs ++ ws) (xs ++ ys) := by
  induction h with
  | nil => exact k
  | cons a _ ih => exact .cons a ih
theorem URs.take {vs : List U} {xs : List AV} (h : URs P ω vs xs) (i : Nat) : URs P ω (vs.take i) (xs.take i) := by
  induction h generalizing i with
  | nil => simp; exact .nil
  | cons a _ ih => cases i with
    | zero => exact .nil
    | succ i => exact .cons a (ih i)
theorem URs.drop {vs : List U} {xs : List AV} (h : URs P ω vs xs) (i : Nat) : URs P ω (vs.drop i) (xs.drop i) := by
  induction h generalizing i with
  | nil => simp; exact .nil
  | cons a r ih => cases i with
    | zero => exact .cons a r
    | succ i => exact ih i
theorem URs.set {vs : List U} {xs : List AV} (h : URs P ω vs xs) (i : Nat) {v : U} {x : AV} (q : UR P ω v x) : URs P ω (vs.set i v) (xs.set i x) := by
  induction h generalizing i with
  | nil => simp; exact .nil
  | cons a r ih => cases i with
    | zero => exact .cons q r
    | succ i => exact .cons a (ih i)
theorem URs.places {vs : List U} {xs : List AV} (h : URs P ω vs xs) : ∀ ks : List Nat, URs P ω (ks.filterMap (vs[·]?)) (ks.filterMap (xs[·]?))
  | [] => .nil
  | k :: ks => by
    rw [List.filterMap_cons, List.filterMap_cons]
    cases e : vs[k]? with
    | none =>
      have : xs[k]? = none := by rw [List.getElem?_eq_none_iff] at e ⊢; rw [← h.len]; exact e
      rw [this]; exact h.places ks
    | some x =>
      obtain ⟨v, h1, h2⟩ := h.get e
      rw [h1]; exact .cons h2 (h.places ks)
theorem URs.many {vs : List U} {xs : List AV} (h : URs P ω vs xs) : ∀ k : Nat, URs P ω (List.replicate k vs).flatten (List.replicate k xs).flatten
  | 0 => .nil
  | k + 1 => by rw [List.replicate_succ, List.replicate_succ, List.flatten_cons, List.flatten_cons]; exact h.append (URs.many h k)
theorem URs.nums {ns : List Int} {xs : List AV} (h : URs P ω (ns.map .int) xs) : xs = ns.map .int := by
  induction ns generalizing xs with
  | nil => cases h; rfl
  | cons a ns ih => cases h with | cons q r => cases q; rw [ih r]; rfl
theorem URs.of_ints : ∀ ns : List Int, URs P ω (ns.map .int) (ns.map .int)
  | [] => .nil
  | _ :: ns => .cons .int (URs.of_ints ns)
theorem IRs.at {vs : List (Int × U)} {xs : List (Int × AV)} (h : IRs P ω vs xs) {k : Int} {v : U} (e : vs.lookup k = some v) : ∃ x, xs.lookup k = some x ∧ UR P ω v x := by
  induction h with
  | nil => cases e
  | @cons k' v' x vs xs q _ ih =>
    rw [List.lookup_cons] at e ⊢
    split at e
    · cases e; exact ⟨x, rfl, q⟩
    · obtain ⟨x', h1, h2⟩ := ih e; exact ⟨x', h1, h2⟩
noncomputable def storedU (kvs : List (Int × U)) (k : Int) (x : U) : List (Int × U) := if kvs.any (fun kv => kv.1 = k) then kvs.map (fun kv => if kv.1 = k then (kv.1, x) else kv) else kvs ++ [(k, x)]
theorem IRs.stored {vs : List (Int × U)} {xs : List (Int × AV)} (h : IRs P ω vs xs) (k : Int) {v : U} {x : AV} (q : UR P ω v x) : IRs P ω (storedU vs k v) (storedA xs k x) := by
  have e : vs.any (fun kv => kv.1 = k) = xs.any (fun kv => kv.1 = k) := by
    induction h with
    | nil => rfl
    | cons _ _ ih => simp only [List.any_cons, ih]
  unfold storedU storedA
  rw [e]
  split
  · clear e
    rename_i hk; clear hk
    induction h with
    | nil => exact .nil
    | @cons k' y w r r' a _ ih =>
      rw [List.map_cons, List.map_cons]
      by_cases e : k' = k
      · simp only [e, if_true]; exact .cons q ih
      · simp only [e, if_false]; exact .cons a ih
  · clear e
    rename_i hk; clear hk
    induction h with
    | nil => exact .cons q .nil
    | cons a _ ih => exact .cons a ih
theorem IRs.len {vs : List (Int × U)} {xs : List (Int × AV)} (h : IRs P ω vs xs) : vs.length = xs.length := by
  induction h with
  | nil => rfl
  | cons _ _ ih => simp [ih]
theorem RRs.len {τ : List (Addr × AObj)} {vs : List Rw} {xs : List AV} (h : RRs τ vs xs) : vs.length = xs.length := by
  induction h with
  | nil => rfl
  | cons _ _ ih => simp [ih]
theorem RRs.append {τ : List (Addr × AObj)} {vs ws : List Rw} {xs ys : List AV} (h : RRs τ vs xs) (k : RRs τ ws ys) : RRs τ (vs ++ ws) (xs ++ ys) := by
  induction h with
  | nil => exact k
  | cons a _ ih => exact .cons a ih
theorem RRs.get {τ : List (Addr × AObj)} {vs : List Rw} {xs : List AV} (h : RRs τ vs xs) {i : Nat} {r : Rw} (e : vs[i]? = some r) : ∃ a, xs[i]? = some (.ref a) ∧ (a, .tup (r.is.map .int)) ∈ τ := by
  induction h generalizing i with
  | nil => cases e
  | cons q _ ih =>
    cases i with
    | zero => simp only [List.getElem?_cons_zero, Option.some.injEq] at e; subst e; exact ⟨_, rfl, q⟩
    | succ i => exact ih e
end
noncomputable def VI (P : LamP) (ω : Wd) (v : U) (x : Value) : Prop := ∃ a, UR P ω v a ∧ a.is x
theorem VI.mono {ω ω' : Wd} {v : U} {x : Value} (h : VI P ω v x) (e : Ext ω ω') : VI P ω' v x := let ⟨a, h1, h2⟩ := h; ⟨a, h1.mono e, h2⟩
inductive VIs (P : LamP) (ω : Wd) : List U → List Value → Prop
  | nil : VIs P ω [] []
  | cons {v x vs xs} : VI P ω v x → VIs P ω vs xs → VIs P ω (v :: vs) (x :: xs)
theorem VIs.mono {ω ω' : Wd} {v : List U} {x : List Value} (h : VIs P ω v x) (e : Ext ω ω') : VIs P ω' v x := by
  induction h with
  | nil => exact .nil
  | cons a _ ih => exact .cons (a.mono e) ih
theorem VIs.split {ω : Wd} {v : List U} {x : List Value} (h : VIs P ω v x) : ∃ as, URs P ω v as ∧ AVs as x := by
  induction h with
  | nil => exact ⟨[], .nil, .nil⟩
  | cons a _ ih =>
    obtain ⟨a', h1, h2⟩ := a
    obtain ⟨as, h3, h4⟩ := ih
    exact ⟨_, .cons h1 h3, .cons h2 h4⟩
theorem VIs.len {ω : Wd} {v : List U} {x : List Value} (h : VIs P ω v x) : v.length = x.length := by
  induction h with
  | nil => rfl
  | cons _ _ ih => simp [ih]
theorem VIs.append {ω : Wd} {v w : List U} {x y : List Value} (h : VIs P ω v x) (k : VIs P ω w y) : VIs P ω (v ++ w) (x ++ y) := by
  induction h with
  | nil => exact k
  | cons a _ ih => exact .cons a ih
structure St where
  ls : List (Str × Option U)
  os : List B
structure Rel (P : LamP) (c : Cx) (g : Heap) (L : Addr) (own : List (Addr × AObj)) (ω : Wd) (m : Str → Option Value) (s : St) (h : Heap) : Prop where
  ex : ∃ ls l, LRs P ω s.ls ls ∧ ZR P ω ω.σ s.os l ∧ ST c g L m ls h (l ++ (ω.τ ++ own))
section
variable {c : Cx} {A : Around} {g h : Heap} {L : Addr} {own : List (Addr × AObj)} {ω ω' : Wd} {m : Str → Option Value} {s : St}
theorem Rel.use {G : Prop} (R : Rel P c g L own ω m s h) (q : ∀ ls l, LRs P ω s.ls ls → ZR P ω ω.σ s.os l → ST c g L m ls h (l ++ (ω.τ ++ own)) → G) : G := R.ex.elim fun ls r => r.elim fun l r => q ls l r.1 r.2.1 r.2.2
theorem Ext.alloc {d : Addr} : Ext ω ⟨ω.σ ++ [d], ω.τ⟩ := ⟨⟨[d], rfl⟩, fun _ h => h⟩
theorem Ext.keep {d : Addr} {x : AObj} : Ext ω ⟨ω.σ, (d, x) :: ω.τ⟩ := ⟨⟨[], by simp⟩, fun _ h => .tail _ h⟩
theorem Rel.imm (R : Rel P c g L own ω m s h) : ∃ ls l, ST c g L m ls h l ∧ ∀ p ∈ ω.τ, p ∈ l := by
  obtain ⟨ls, l, h1, h2, h3⟩ := R.ex
  exact ⟨ls, _, h3, fun p hp => List.mem_append_right _ (List.mem_append_left _ hp)⟩
theorem Rel.push (R : Rel P c g L own ω m s h) {x : AObj} {h' : Heap} {d : Addr} (S : ∀ ls l, ST c g L m ls h l → ST c g L m ls h' ((d, x) :: l)) : Rel P c g L ((d, x) :: own) ω m s h' := by
  obtain ⟨ls, l, h1, h2, h3⟩ := R.ex
  have S' := S _ _ h3
  refine ⟨ls, l, h1, h2, ⟨S'.lo, S'.ld.perm ?_⟩⟩
  rw [← List.append_assoc, ← List.append_assoc]
  exact List.perm_middle
theorem Rel.pop {p : Addr × AObj} (R : Rel P c g L (p :: own) ω m s h) : Rel P c g L own ω m s h := by
  obtain ⟨ls, l, h1, h2, h3⟩ := R.ex
  refine ⟨ls, l, h1, h2, ⟨h3.lo, ?_⟩⟩
  have : ((l ++ (ω.τ ++ p :: own))).Perm (p :: (l ++ (ω.τ ++ own))) := by
    rw [← List.append_assoc, ← List.append_assoc]
    exact List.perm_middle
  exact (h3.ld.perm this.symm).drop
theorem Rel.front2 {p : Addr × AObj} (R : Rel P c g L (p :: own) ω m s h) : ∃ ls l, ST c g L m ls h (p :: l) ∧ (∀ (i : Nat) (o : B), s.os[i]? = some o → ∃ a x, ω.σ[i]? = some a ∧ (a, x) ∈ l ∧ BR P ω o x) ∧
    (∀ p' h', ST c g L m ls h' (p' :: l) → Rel P c g L (p' :: own) ω m s h') ∧ ∀ h', ST c g L m ls h' l → Rel P c g L own ω m s h' := by
  obtain ⟨ls, l, h1, h2, h3⟩ := R.ex
  have pm : ∀ p' : Addr × AObj, ((l ++ (ω.τ ++ p' :: own))).Perm (p' :: (l ++ (ω.τ ++ own))) := fun p' => by
    rw [← List.append_assoc, ← List.append_assoc]
    exact List.perm_middle
  refine ⟨ls, _, ⟨h3.lo, h3.ld.perm (pm p).symm⟩, fun i o e => ?_, fun p' h' S => ⟨ls, l, h1, h2, ⟨S.lo, S.ld.perm (pm p')⟩⟩, fun h' S => ⟨ls, l, h1, h2, S⟩⟩
  obtain ⟨a, x, q1, q2, q3⟩ := h2.at e
  exact ⟨a, x, q1, List.mem_append_left _ q2, q3⟩
theorem Rel.store (R : Rel P c g L own ω m s h) {x : Str} {v : U} {y : Value} (q : VI P ω v y) (hm : x ∈ s.ls.map (·.1)) : ∃ av ls ls' l, av.is y ∧ ST c g L m ls h l ∧ UpdL x av ls ls' ∧ ∀ h' m', ST c g L m' ls' h' l → Rel P c g L own ω m' ⟨setLs x v s.ls, s.os⟩ h' := by
  obtain ⟨ls, l, h1, h2, h3⟩ := R.ex
  obtain ⟨av, h4, h5⟩ := q
  obtain ⟨ls', h6, h7⟩ := h1.set h4 hm
  exact ⟨av, ls, ls', _, h5, h3, h6, fun h' m' S => ⟨ls', l, h7, h2, S⟩⟩
end
end Mine
namespace Mine
structure Fm where
  nm : List (Str × NameKind)
  cl : List (Str × Nat)
  d : Nat
  cv : Option (Str × U)
inductive Fl where
  | next
  | ret (v : U)
inductive Bt where
  | len | min | max | sorted | list | str | range
inductive Bm where
  | append | pop | insert | extend | remove | index | get
structure Tabs where
  gl : List (Str × U)
  bt : List (Str × Bt)
  me : List (Addr × List (Str × Addr))
  fi : List (Addr × List Str)
  cs : List (Addr × Addr)
structure FnI where
  nm : List (Str × NameKind)
  ps : List Str
  df : List U
  body : List Stmt
  cells : List Str
noncomputable abbrev Spec := Nat → St → List U → (U → St → Prop) → Prop
structure Mc where
  T : Tabs
  fn : Addr → Option FnI
  sp : Addr → Option Spec
structure In where
  ev : Fm → St → Expr → (U → St → Prop) → Prop
  te : Fm → St → Expr → (Bool → St → Prop) → Prop
  sp : Fm → St → List Expr → (List U → St → Prop) → Prop
  ca : Nat → St → Addr → List U → (U → St → Prop) → Prop
  as : Fm → St → Expr → U → (St → Prop) → Prop
  ex : Fm → St → Stmt → (Fl → St → Prop) → Prop
  xs : Fm → St → List Stmt → (Fl → St → Prop) → Prop
  wl : Fm → St → Expr → List Stmt → (Fl → St → Prop) → Prop
  fo : Fm → St → Expr → Nat → Nat → List Stmt → (Fl → St → Prop) → Prop
noncomputable def In.zero : In := ⟨fun _ _ _ _ => False, fun _ _ _ _ => False, fun _ _ _ _ => False, fun _ _ _ _ _ => False, fun _ _ _ _ _ => False, fun _ _ _ _ => False, fun _ _ _ _ => False, fun _ _ _ _ _ => False, fun _ _ _ _ _ _ _ => False⟩
noncomputable def bindO {α : Type} (o : Option α) (f : α → Prop) : Prop := match o with
  | some a => f a
  | none => False
noncomputable def br (b : Bool) (p q : Prop) : Prop := match b with
  | true => p
  | false => q
noncomputable def St.put (s : St) (i : Nat) (o : B) : St := ⟨s.ls, s.os.set i o⟩
noncomputable def St.new (s : St) (o : B) : St := ⟨s.ls, s.os ++ [o]⟩
noncomputable def natTab : List Nat := [0, 1, 2, 3, 4, 5, 6, 7, 8, 9, 10, 11, 12, 13, 14, 15, 16, 17, 18, 19, 20, 21, 22, 23, 24, 25, 26, 27, 28, 29, 30, 31, 32, 33, 34, 35, 36, 37, 38, 39, 40, 41, 42, 43, 44, 45, 46, 47, 48, 49, 50, 51, 52, 53, 54, 55, 56, 57, 58, 59, 60, 61, 62, 63, 64, 65, 66, 67, 68, 69, 70, 71, 72, 73, 74, 75, 76, 77, 78, 79, 80, 81, 82, 83, 84, 85, 86, 87, 88, 89, 90, 91, 92, 93, 94, 95, 96, 97, 98, 99, 100, 101, 102, 103, 104, 105, 106, 107, 108, 109, 110, 111, 112, 113, 114, 115, 116, 117, 118, 119, 120, 121, 122, 123, 124, 125, 126, 127, 128, 129, 130, 131, 132, 133, 134, 135, 136, 137, 138, 139, 140, 141, 142, 143, 144, 145, 146, 147, 148, 149, 150, 151, 152, 153, 154, 155, 156, 157, 158, 159, 160, 161, 162, 163, 164, 165, 166, 167, 168, 169, 170, 171, 172, 173, 174, 175, 176, 177, 178, 179, 180, 181, 182, 183, 184, 185, 186, 187, 188, 189, 190, 191, 192, 193, 194, 195, 196, 197, 198, 199, 200, 201, 202, 203, 204, 205, 206, 207, 208, 209, 210, 211, 212, 213, 214, 215, 216, 217, 218, 219, 220, 221, 222, 223, 224, 225, 226, 227, 228, 229, 230, 231, 232, 233, 234, 235, 236, 237, 238, 239]
noncomputable def forceN (n : Nat) (k : Nat → Prop) : Prop := bindO natTab[n]? k
noncomputable def forceU (v : U) (k : U → Prop) : Prop := match v with
  | .none => k .none
  | .bool b => k (.bool b)
  | .int i => k (.int i)
  | .str x => k (.str x)
  | .loc i => forceN i fun i => k (.loc i)
  | .glob a => k (.glob a)
  | .tup is => k (.tup is)
  | .rows rs => k (.rows rs)
  | .nums ns => k (.nums ns)
  | .lam => k .lam
noncomputable def forceO (v : Option U) (k : Option U → Prop) : Prop := match v with
  | none => k none
  | some v => forceU v fun v => k (some v)
noncomputable def forceUs (l : List U) (k : List U → Prop) : Prop := List.rec (motive := fun _ => (List U → Prop) → Prop) (fun k => k []) (fun v _ r k => forceU v fun v => r fun l => k (v :: l)) l k
noncomputable def forceFs (l : List (Str × U)) (k : List (Str × U) → Prop) : Prop := List.rec (motive := fun _ => (List (Str × U) → Prop) → Prop) (fun k => k []) (fun p _ r k => match p with
  | (y, v) => forceU v fun v => r fun l => k ((y, v) :: l)) l k
noncomputable def forceIs (l : List (Int × U)) (k : List (Int × U) → Prop) : Prop := List.rec (motive := fun _ => (List (Int × U) → Prop) → Prop) (fun k => k []) (fun p _ r k => match p with
  | (y, v) => forceU v fun v => r fun l => k ((y, v) :: l)) l k
noncomputable def forceLs (l : List (Str × Option U)) (k : List (Str × Option U) → Prop) : Prop := List.rec (motive := fun _ => (List (Str × Option U) → Prop) → Prop) (fun k => k []) (fun p _ r k => match p with
  | (y, v) => forceO v fun v => r fun l => k ((y, v) :: l)) l k
noncomputable def forceCl (l : List (Str × Nat)) (k : List (Str × Nat) → Prop) : Prop := List.rec (motive := fun _ => (List (Str × Nat) → Prop) → Prop) (fun k => k []) (fun p _ r k => match p with
  | (y, v) => forceN v fun v => r fun l => k ((y, v) :: l)) l k
noncomputable def forceB (o : B) (k : B → Prop) : Prop := match o with
  | .inst C dx => forceN dx fun dx => k (.inst C dx)
  | .attrs fs => forceFs fs fun fs => k (.attrs fs)
  | .lst vs => forceUs vs fun vs => k (.lst vs)
  | .idict kvs => forceIs kvs fun kvs => k (.idict kvs)
  | .cell v => forceO v fun v => k (.cell v)
  | .raw o => k (.raw o)
noncomputable def forceOs (l : List B) (k : List B → Prop) : Prop := List.rec (motive := fun _ => (List B → Prop) → Prop) (fun k => k []) (fun o _ r k => r fun l => k (o :: l)) l k
noncomputable def forceBs (l : List B) (k : List B → Prop) : Prop := List.rec (motive := fun _ => (List B → Prop) → Prop) (fun k => k []) (fun o _ r k => forceB o fun o => r fun l => k (o :: l)) l k
noncomputable def putK (s : St) (i : Nat) (o : B) (k : St → Prop) : Prop := forceB o fun o => forceOs (s.os.set i o) fun os => k ⟨s.ls, os⟩
noncomputable def newK (s : St) (o : B) (k : U → St → Prop) : Prop := forceB o fun o => forceOs (s.os ++ [o]) fun os => forceN s.os.length fun n => k (.loc n) ⟨s.ls, os⟩
theorem natTab_is {n m : Nat} (h : natTab[n]? = some m) : m = n := by
  have key : ∀ i : Nat, i < 240 → natTab[i]? = some i := by decide +kernel
  have hl : natTab.length = 240 := by decide +kernel
  have := (List.getElem?_eq_some_iff.mp h).1
  rw [key n (by omega)] at h
  cases h; rfl
theorem forceN_is {n : Nat} {k : Nat → Prop} (h : forceN n k) : k n := by
  unfold forceN bindO at h
  split at h
  · rename_i a e; rw [natTab_is e] at h; exact h
  · exact h.elim
theorem forceU_is {v : U} {k : U → Prop} (h : forceU v k) : k v := by
  cases v <;> first | exact h | exact forceN_is (k := fun i => k (.loc i)) h
theorem forceO_is {v : Option U} {k : Option U → Prop} (h : forceO v k) : k v := by
  cases v with
  | none => exact h
  | some v => exact forceU_is (k := fun v => k (some v)) h
theorem forceUs_is {l : List U} : ∀ {k : List U → Prop}, forceUs l k → k l := by
  induction l with
  | nil => intro k h; exact h
  | cons v l ih => intro k h; exact ih (k := fun l => k (v :: l)) (forceU_is (k := fun v => forceUs l fun l => k (v :: l)) h)
theorem forceFs_is {l : List (Str × U)} : ∀ {k : List (Str × U) → Prop}, forceFs l k → k l := by
  induction l with
  | nil => intro k h; exact h
  | cons p l ih => intro k h; obtain ⟨y, v⟩ := p; exact ih (k := fun l => k ((y, v) :: l)) (forceU_is (k := fun v => forceFs l fun l => k ((y, v) :: l)) h)
theorem forceIs_is {l : List (Int × U)} : ∀ {k : List (Int × U) → Prop}, forceIs l k → k l := by
  induction l with
  | nil => intro k h; exact h
  | cons p l ih => intro k h; obtain ⟨y, v⟩ := p; exact ih (k := fun l => k ((y, v) :: l)) (forceU_is (k := fun v => forceIs l fun l => k ((y, v) :: l)) h)
theorem forceLs_is {l : List (Str × Option U)} : ∀ {k : List (Str × Option U) → Prop}, forceLs l k → k l := by
  induction l with
  | nil => intro k h; exact h
  | cons p l ih => intro k h; obtain ⟨y, v⟩ := p; exact ih (k := fun l => k ((y, v) :: l)) (forceO_is (k := fun v => forceLs l fun l => k ((y, v) :: l)) h)
theorem forceCl_is {l : List (Str × Nat)} : ∀ {k : List (Str × Nat) → Prop}, forceCl l k → k l := by
  induction l with
  | nil => intro k h; exact h
  | cons p l ih => intro k h; obtain ⟨y, v⟩ := p; exact ih (k := fun l => k ((y, v) :: l)) (forceN_is (k := fun v => forceCl l fun l => k ((y, v) :: l)) h)
theorem forceB_is {o : B} {k : B → Prop} (h : forceB o k) : k o := by
  cases o with
  | inst C dx => exact forceN_is (k := fun dx => k (.inst C dx)) h
  | attrs fs => exact forceFs_is (k := fun fs => k (.attrs fs)) h
  | lst fs => exact forceUs_is (k := fun fs => k (.lst fs)) h
  | idict fs => exact forceIs_is (k := fun fs => k (.idict fs)) h
  | cell fs => exact forceO_is (k := fun fs => k (.cell fs)) h
  | raw o => exact h
theorem forceOs_is {l : List B} : ∀ {k : List B → Prop}, forceOs l k → k l := by
  induction l with
  | nil => intro k h; exact h
  | cons o l ih => intro k h; exact ih (k := fun l => k (o :: l)) h
theorem forceBs_is {l : List B} : ∀ {k : List B → Prop}, forceBs l k → k l := by
  induction l with
  | nil => intro k h; exact h
  | cons o l ih => intro k h; exact ih (k := fun l => k (o :: l)) (forceB_is (k := fun o => forceBs l fun l => k (o :: l)) h)
theorem putK_is {s : St} {i : Nat} {o : B} {k : St → Prop} (h : putK s i o k) : k (s.put i o) :=
  forceOs_is (k := fun os => k ⟨s.ls, os⟩) (forceB_is (k := fun o => forceOs (s.os.set i o) fun os => k ⟨s.ls, os⟩) h)
theorem newK_is {s : St} {o : B} {k : U → St → Prop} (h : newK s o k) : k (.loc s.os.length) (s.new o) :=
  forceN_is (k := fun n => k (.loc n) (s.new o)) (forceOs_is (k := fun os => forceN s.os.length fun n => k (.loc n) ⟨s.ls, os⟩) (forceB_is (k := fun o => forceOs (s.os ++ [o]) fun os => forceN s.os.length fun n => k (.loc n) ⟨s.ls, os⟩) h))
noncomputable def storeK (s : St) (x : Str) (v : U) (k : St → Prop) : Prop := forceLs (setLs x v s.ls) fun ls => k ⟨ls, s.os⟩
theorem storeK_is {s : St} {x : Str} {v : U} {k : St → Prop} (h : storeK s x v k) : k ⟨setLs x v s.ls, s.os⟩ := forceLs_is (k := fun ls => k ⟨ls, s.os⟩) h
noncomputable def nameI (M : Mc) (F : Fm) (s : St) (x : Str) : Option U := match F.cv with
  | some (y, v) => (match y == x with
    | true => some v
    | false => match F.nm.lookup x with
      | some .free => (match F.cl.lookup x with
        | some i => (match s.os[i]? with
          | some (.cell (some v)) => some v
          | _ => none)
        | none => none)
      | some .globalImplicit => M.T.gl.lookup x
      | _ => none)
  | none => match F.nm.lookup x with
    | some .local => (s.ls.lookup x).join
    | some .cell | some .free => (match F.cl.lookup x with
      | some i => (match s.os[i]? with
        | some (.cell (some v)) => some v
        | _ => none)
      | none => none)
    | some .globalImplicit => M.T.gl.lookup x
    | _ => none
noncomputable def bltI (M : Mc) (F : Fm) (x : Str) : Option Bt := match F.nm.lookup x with
  | some .globalImplicit => M.T.bt.lookup x
  | _ => none
noncomputable def fieldI (M : Mc) (s : St) (v : U) (y : Str) : Option U := match v with
  | .loc i => (match s.os[i]? with
    | some (.inst C dx) => (match ((M.T.fi.lookup C).getD []).contains y with
      | true => (match s.os[dx]? with
        | some (.attrs fs) => fs.lookup y
        | _ => none)
      | false => none)
    | _ => none)
  | _ => none
noncomputable def small (j : Int) : Bool := decide (0 ≤ j) && decide (j < 1000000)
noncomputable def itemI (s : St) (o x : U) : Option U := match o, x with
  | .loc i, .int j => (match s.os[i]? with
    | some (.lst vs) => (match small j with
      | true => vs[j.toNat]?
      | false => none)
    | some (.idict kvs) => kvs.lookup j
    | _ => none)
  | .tup is, .int j => (match small j with
    | true => (match is[j.toNat]? with
      | some i => some (.int i)
      | none => none)
    | false => none)
  | .rows rs, .int j => (match small j with
    | true => (match rs[j.toNat]? with
      | some r => some (.tup r.is)
      | none => none)
    | false => match j == -1 with
      | true => (match rs.getLast? with
        | some r => some (.tup r.is)
        | none => none)
      | false => none)
  | _, _ => none
noncomputable def rowAt (rs : List Rw) (j : Int) : Option Rw := match small j with
  | true => rs[j.toNat]?
  | false => match j == -1 with
    | true => rs.getLast?
    | false => none
noncomputable def itemK (s : St) (o x : U) (k : U → St → Prop) : Prop := match o, x with
  | .rows rs, .int j => ∃ r, rowAt rs j = some r ∧ k (.tup r.is) s
  | o, x => match itemI s o x with
    | some u => k u s
    | none => False
theorem itemK_is {s : St} {o x : U} {k : U → St → Prop} (h : itemK s o x k) : ∃ u, itemI s o x = some u ∧ k u s := by
  unfold itemK at h
  split at h
  · obtain ⟨r, e, h⟩ := h
    refine ⟨_, ?_, h⟩
    unfold rowAt at e
    unfold itemI
    dsimp only
    split at e
    · rename_i hs
      try rw [hs]
      rw [e]
    · rename_i hs
      try rw [hs]
      try dsimp only
      split at e
      · rename_i hj
        try rw [hj]
        rw [e]
      · cases e
  · split at h
    · rename_i u e; exact ⟨u, e, h⟩
    · exact h.elim
noncomputable def rowsD (rs : List Rw) : PyData := .list (rs.map fun r => .tuple (r.is.map .int))
noncomputable def datI (s : St) : Nat → U → Option PyData
  | _, .none => some .none
  | _, .bool b => some (.bool b)
  | _, .int i => some (.int i)
  | _, .tup is => some (.tuple (is.map .int))
  | _, .rows rs => some (rowsD rs)
  | n + 1, .loc i => (match s.os[i]? with
    | some (.lst vs) => (match vs.mapM (datI s n) with
      | some ds => some (.list ds)
      | none => none)
    | _ => none)
  | _, _ => none
noncomputable def isNoneU : U → Bool
  | .none => true
  | _ => false
noncomputable def cmpI (s : St) (op : CmpOp) (a b : U) : Option Bool := match op, a, b with
  | .Lt, .int i, .int j => some (decide (i < j))
  | .LtE, .int i, .int j => some (decide (i ≤ j))
  | .Gt, .int i, .int j => some (decide (j < i))
  | .GtE, .int i, .int j => some (decide (j ≤ i))
  | .Eq, .int i, .int j => some (i == j)
  | .NotEq, .int i, .int j => some (i != j)
  | .Eq, .str x, .str y => some (x.cps.toList == y.cps.toList)
  | .Is, a, .none => some (isNoneU a)
  | .IsNot, a, .none => some (!isNoneU a)
  | .NotIn, .int i, .tup is => some (!(is.any (· == i)))
  | .Eq, a, b => (match datI s 2 a, datI s 2 b with
    | some d, some e => some (PyData.eqv d e)
    | _, _ => none)
  | .NotEq, a, b => (match datI s 2 a, datI s 2 b with
    | some d, some e => some (!PyData.eqv d e)
    | _, _ => none)
  | _, _, _ => none
noncomputable def rowU : U → Option Rw
  | .tup [b, s, p, h] => some ⟨b, s, p, h⟩
  | _ => none
noncomputable def rowsU (s : St) : U → Option (List Rw)
  | .rows rs => some rs
  | .loc i => (match s.os[i]? with
    | some (.lst vs) => vs.mapM rowU
    | _ => none)
  | _ => none
noncomputable def fits (n : Nat) : Bool := Nat.ble n 100000
noncomputable def binI (s : St) (op : Operator) (a b : U) (k : U → St → Prop) : Prop := match op, a, b with
  | .Add, .int i, .int j => k (.int (i + j)) s
  | .Sub, .int i, .int j => k (.int (i - j)) s
  | .FloorDiv, .int i, .int j => (match j == 2 with
    | true => k (.int (i.fdiv 2)) s
    | false => False)
  | .Add, .str x, .str y => (match fits x.cps.size && fits y.cps.size with
    | true => k (.str (x ++ y)) s
    | false => False)
  | .Mult, .loc i, .int j => (match s.os[i]? with
    | some (.lst vs) => (match small j && fits (vs.length * j.toNat) with
      | true => newK s (.lst (List.replicate j.toNat vs).flatten) k
      | false => False)
    | _ => False)
  | .Add, .rows x, y => bindO (rowsU s y) fun y => (x.length ≤ 1000 ∧ y.length ≤ 1000) ∧ k (.rows (x ++ y)) s
  | .Add, .loc i, .rows y => bindO (rowsU s (.loc i)) fun x => (x.length ≤ 1000 ∧ y.length ≤ 1000) ∧ k (.rows (x ++ y)) s
  | .Add, .loc i, .loc j => (match s.os[i]?, s.os[j]? with
    | some (.lst x), some (.lst y) => (match fits x.length && fits y.length with
      | true => newK s (.lst (x ++ y)) k
      | false => False)
    | _, _ => False)
  | _, _, _ => False
noncomputable def intsU : List U → Option (List Int)
  | [] => some []
  | .int i :: r => (match intsU r with
    | some is => some (i :: is)
    | none => none)
  | _ => none
noncomputable def btI (b : Bt) (s : St) (vs : List U) (k : U → St → Prop) : Prop := match b, vs with
  | .len, [.loc i] => (match s.os[i]? with
    | some (.lst vs) => (match fits vs.length with
      | true => k (.int vs.length) s
      | false => False)
    | _ => False)
  | .min, [.int a, .int b] => k (.int (if b < a then b else a)) s
  | .max, [.int a, .int b] => k (.int (if b > a then b else a)) s
  | .sorted, [.loc i] => (match s.os[i]? with
    | some (.idict []) => newK s (.lst []) k
    | _ => False)
  | .list, [.loc i] => (match s.os[i]? with
    | some (.lst vs) => (match fits vs.length with
      | true => newK s (.lst vs) k
      | false => False)
    | _ => False)
  | .list, [.rows rs] => rs.length ≤ 1000 ∧ k (.rows rs) s
  | .str, [.int i] => (match small i with
    | true => k (.str (Str.ofString (toString i))) s
    | false => False)
  | _, _ => False
noncomputable def idxI (k : Int) : List U → Option Nat
  | .int i :: r => (match i == k with
    | true => some 0
    | false => match idxI k r with
      | some j => some (j + 1)
      | none => none)
  | _ => none
noncomputable def bmJ (m : Bm) (s : St) (i : Nat) (o : Option B) (vs : List U) (k : U → St → Prop) : Prop := match m, o, vs with
  | .append, some (.lst xs), [x] => (match fits xs.length with
    | true => putK s i (.lst (xs ++ [x])) (k .none)
    | false => False)
  | .pop, some (.lst xs), [] => (match xs.reverse, fits xs.length with
    | x :: r, true => putK s i (.lst r.reverse) (k x)
    | _, _ => False)
  | .insert, some (.lst xs), [.int j, x] => (match fits xs.length && small j && Nat.ble j.toNat xs.length with
    | true => putK s i (.lst (xs.take j.toNat ++ x :: xs.drop j.toNat)) (k .none)
    | false => False)
  | .extend, some (.lst xs), [.loc j] => (match s.os[j]?, Nat.beq i j with
    | some (.lst ys), false => (match fits xs.length && fits ys.length with
      | true => putK s i (.lst (xs ++ ys)) (k .none)
      | false => False)
    | _, _ => False)
  | .index, some (.lst xs), [.int j] => (match intsU xs, fits xs.length with
    | some ns, true => bindO (ns.idxOf? j) fun n => k (.int n) s
    | _, _ => False)
  | .remove, some (.lst xs), [.int j] => (match intsU xs, fits xs.length with
    | some ns, true => bindO (ns.idxOf? j) fun n => putK s i (.lst ((ns.eraseIdx n).map .int)) (k .none)
    | _, _ => False)
  | .get, some (.idict kvs), [.int j] => bindO (kvs.lookup j) fun v => k v s
  | .get, some (.idict kvs), [.int j, _] => bindO (kvs.lookup j) fun v => k v s
  | _, _, _ => False
noncomputable def bmI (m : Bm) (s : St) (v : U) (vs : List U) (k : U → St → Prop) : Prop := match v with
  | .loc i => bmJ m s i s.os[i]? vs k
  | _ => False
noncomputable def setI (M : Mc) (s : St) (o : U) (y : Str) (v : U) (k : St → Prop) : Prop := match o with
  | .loc i => (match s.os[i]? with
    | some (.inst C dx) => (match ((M.T.fi.lookup C).getD []).contains y, s.os[dx]? with
      | true, some (.attrs fs) => (match (fs.map (·.1)).contains y with
        | true => putK s dx (.attrs (setFs y v fs)) k
        | false => (match Nat.blt fs.length 100 with
          | true => putK s dx (.attrs (fs ++ [(y, v)])) k
          | false => False))
      | _, _ => False)
    | _ => False)
  | _ => False
noncomputable def putI (s : St) (o x v : U) (k : St → Prop) : Prop := match o, x with
  | .loc i, .int j => (match s.os[i]? with
    | some (.lst vs) => (match small j && Nat.blt j.toNat vs.length with
      | true => putK s i (.lst (vs.set j.toNat v)) k
      | false => False)
    | some (.idict kvs) => (match fits kvs.length with
      | true => putK s i (.idict (storedU kvs j v)) k
      | false => False)
    | _ => False)
  | _, _ => False
noncomputable def partI : U → Option (Option Int)
  | .none => some none
  | .int i => some (some i)
  | _ => none
noncomputable def pickU (vs : List U) (lo hi st : Option Int) : List U := (sliceRange (sliceBounds lo hi st vs.length).1 (sliceBounds lo hi st vs.length).2.1 (sliceBounds lo hi st vs.length).2.2).filterMap (vs[·]?)
noncomputable def sliceI (s : St) (o a b c : U) (k : U → St → Prop) : Prop := match o, partI a, partI b, partI c with
  | .loc i, some lo, some hi, some st => (match s.os[i]?, st == some 0 with
    | some (.lst vs), false => (match fits vs.length with
      | true => newK s (.lst (pickU vs lo hi st)) k
      | false => False)
    | _, _ => False)
  | _, _, _, _ => False
noncomputable def sliceP (s : St) (o a b : U) (v : U) (k : St → Prop) : Prop := match o, partI a, partI b, v with
  | .loc i, some lo, some hi, .loc j => (match s.os[i]?, s.os[j]?, Nat.beq i j with
    | some (.lst vs), some (.lst ws), false => (match fits vs.length && fits ws.length with
      | true => putK s i (.lst (vs.take (sliceBounds lo hi none vs.length).1.toNat ++ ws ++ vs.drop (max (sliceBounds lo hi none vs.length).1 (sliceBounds lo hi none vs.length).2.1).toNat)) k
      | false => False)
    | _, _, _ => False)
  | _, _, _, _ => False
inductive Me where
  | fn (fa : Addr)
  | bm (m : Bm)
noncomputable def bmOf : Str → Option Bm := fun x =>
  if x = "append" then some .append else if x = "pop" then some .pop else if x = "insert" then some .insert else if x = "extend" then some .extend else if x = "remove" then some .remove else if x = "index" then some .index else none
noncomputable def methI (M : Mc) (s : St) (v : U) (y : Str) : Option Me := match v with
  | .loc i => (match s.os[i]? with
    | some (.inst C dx) => (match s.os[dx]? with
      | some (.attrs fs) => (match (fs.map (·.1)).contains y, ((M.T.me.lookup C).getD []).lookup y with
        | false, some fa => some (.fn fa)
        | _, _ => none)
      | _ => none)
    | some (.lst _) => (match bmOf y with
      | some m => some (.bm m)
      | none => none)
    | some (.idict _) => if y = "get" then some (.bm .get) else none
    | _ => none)
  | _ => none
noncomputable def isComp : Expr → Bool
  | .ListComp .. | .SetComp .. | .DictComp .. => true
  | _ => false
noncomputable def isStar : Expr → Bool
  | .Starred .. => true
  | _ => false
noncomputable def isSetE : Expr → Bool
  | .Set .. => true
  | _ => false
noncomputable def isName : Expr → Bool
  | .Name .. => true
  | _ => false
noncomputable def plainBase : Expr → Bool
  | .Name .. => true
  | .Attribute .. => true
  | .Subscript .. => true
  | .Call (.Attribute ..) _ _ _ => true
  | _ => false
noncomputable def okNames (nm : List (Str × NameKind)) : Bool := nm.all fun p => p.1 != ("__debug__" : Str) && p.1 != ("__classdict__" : Str)
noncomputable def noStar (es : List Expr) : Bool := es.all fun e => !isStar e
noncomputable def bindI (f : FnI) (vs : List U) : Option (List (Str × U)) :=
  match Nat.ble vs.length f.ps.length && Nat.ble f.ps.length (vs.length + f.df.length) && Nat.ble f.df.length f.ps.length with
  | true => some (f.ps.zip (vs ++ f.df.drop (f.df.length - (f.ps.length - vs.length))))
  | false => none
noncomputable def locsOf (nm : List (Str × NameKind)) (b : List (Str × U)) : List (Str × Option U) := (nm.filter fun p => p.2 == .local).map fun p => (p.1, b.lookup p.1)
noncomputable def cellNums : List Str → Nat → List (Str × Nat)
  | [], _ => []
  | x :: r, n => (x, n) :: cellNums r (n + 1)
noncomputable def retU : Fl → U
  | .next => .none
  | .ret v => v
noncomputable def enterI (I : In) (f : FnI) (d : Nat) (s : St) (vs : List U) (k : U → St → Prop) : Prop := match bindI f vs with
  | none => False
  | some b => forceCl (cellNums f.cells s.os.length) fun cl => forceLs (locsOf f.nm b) fun ls => forceBs (f.cells.map fun x => .cell (b.lookup x)) fun cs => forceOs (s.os ++ cs) fun os =>
    I.xs ⟨f.nm, cl, d, none⟩ ⟨ls, os⟩ f.body fun fl s' => k (retU fl) ⟨s.ls, s'.os⟩
noncomputable def callI (M : Mc) (I : In) (d : Nat) (s : St) (fa : Addr) (vs : List U) (k : U → St → Prop) : Prop := match M.sp fa with
  | some q => q d s vs k
  | none => match M.T.cs.lookup fa with
    | some fi => (match d, M.fn fi with
      | d + 2, some f => forceN s.os.length fun n => forceN (n + 1) fun n' => forceOs (s.os ++ [.attrs [], .inst fa n]) fun os => enterI I f d ⟨s.ls, os⟩ (.loc n' :: vs) fun v s' => match v with
        | .none => k (.loc n') s'
        | _ => False
      | _, _ => False)
    | none => (match d, M.fn fa with
      | d + 1, some f => enterI I f d s vs k
      | _, _ => False)
noncomputable def rowTest (I : In) (F : Fm) (s : St) (x : Str) (t : Expr) (r : Rw) (b : Bool) : Prop := I.te { F with cv := some (x, .tup r.is) } s t fun b' s' => b' = b ∧ s' = s
noncomputable def blockOk (F : Fm) (x : Str) (iter : Expr) (sc : Scope) : Bool := F.cv.isNone && !isSetE iter && sc.kind == .function && (sc.names.lookup x == some .local) && !(x == ("__debug__" : Str)) && (sc.names.all fun y => y.2 != .cell) && (sc.names.all fun y => y.2 != .local || sc.names.lookup y.1 == some .local) && (sc.names.all fun y => y.2 != .free || (F.cl.lookup y.1).isSome) && okNames sc.names
noncomputable def compI (I : In) (F : Fm) (x : Str) (elt : Expr) (k : List U → St → Prop) (is : List Int) : List U → St → Prop :=
  List.rec (motive := fun _ => List U → St → Prop) (fun us s => k us s) (fun i _ r us s => I.ev { F with cv := some (x, .int i) } s elt fun v s => r (us ++ [v]) s) is
noncomputable def valsI (I : In) (F : Fm) (x : Str) (t : Expr) (ii : Nat) (o : Obj) (k : List U → St → Prop) (vs : List U) : List U → St → Prop :=
  List.rec (motive := fun _ => List U → St → Prop) (fun us s => k us s) (fun v _ r us s => I.te { F with cv := some (x, v) } s t fun b s' => s'.os[ii]? = some (.raw o) ∧ br b (r (us ++ [v]) s') (r us s')) vs
noncomputable def valsC (I : In) (F : Fm) (s : St) (x x' : Str) (d : Expr) (y : Str) (ap cp : Pos) (t : Expr) (sc : Scope) (k : U → St → Prop) : Prop :=
  match x == x' && y == ("values" : Str) && plainBase d && Nat.beq ap.endLine cp.line && blockOk F x (.Call (.Attribute d y ap) [] [] cp) sc with
  | true => I.ev F s d fun v s => (match v with
    | .loc i => (match s.os[i]? with
      | some (.idict kvs) => (match Nat.ble kvs.length 1000 with
        | true => ∀ o : Obj, putK s i (.raw o) fun s₀ => valsI I { F with nm := sc.names } x t i o (fun us s' => putK s' i (.idict kvs) fun s'' => newK s'' (.lst us) k) (kvs.map (·.2)) [] s₀
        | false => False)
      | _ => False)
    | _ => False)
  | false => False
noncomputable def rowsC (I : In) (F : Fm) (s : St) (x x' : Str) (iter t : Expr) (sc : Scope) (k : U → St → Prop) : Prop :=
  (match x == x' && blockOk F x iter sc with
      | true => I.ev F s iter fun v s => match v with
        | .rows rs => rs.length ≤ 1000 ∧ ∃ p : Rw → Bool, (∀ r ∈ rs, rowTest I { F with nm := sc.names } s x t r (p r)) ∧ k (.rows (rs.filter p)) s
        | _ => False
      | false => False)
noncomputable def storeI (F : Fm) (s : St) (x : Str) (v : U) (k : St → Prop) : Prop := match F.nm.lookup x with
  | some .local => (match (s.ls.map (·.1)).contains x with
    | true => storeK s x v k
    | false => False)
  | some .cell => (match F.cl.lookup x with
    | some i => (match s.os[i]? with
      | some (.cell _) => putK s i (.cell (some v)) k
      | _ => False)
    | none => False)
  | _ => False
noncomputable def optI (I : In) (F : Fm) (s : St) (e : Option Expr) (k : U → St → Prop) : Prop := match e with
  | none => k .none s
  | some e => I.ev F s e k
noncomputable def seqAs (I : In) (F : Fm) : List Expr → List U → St → (St → Prop) → Prop
  | [], [], s, k => k s
  | t :: ts, v :: vs, s, k => I.as F s t v fun s' => seqAs I F ts vs s' k
  | _, _, _, _ => False
noncomputable def swapI (F : Fm) (ts vs : List Expr) : Option (Option (List Str)) :=
  match !(ts.length == 2 || ts.length == 3) || vs.length != ts.length with
  | true => some none
  | false => match vs.any (fun | .Starred .. => true | _ => false) with
    | true => some none
    | false =>
      let line := (ts.head?.map (·.pos.line)).getD 0
      let names := ts.filterMap fun
        | .Name id pos => if F.nm.lookup id == some .local && pos.line == line then some id else none
        | _ => none
      match names.length != ts.length || names.eraseDups.length != names.length with
      | true => some none
      | false => match vs.all (foldedForSure 8) with
        | true => some none
        | false => match vs.all (constantsAlone 8) with
          | true => none
          | false => some (some names)
noncomputable def seqNames (F : Fm) : List Str → List U → St → (St → Prop) → Prop
  | [], [], s, k => k s
  | x :: xs, v :: vs, s, k => storeI F s x v fun s' => seqNames F xs vs s' k
  | _, _, _, _ => False
noncomputable def itemsI (s : St) (v : U) : Option (List U) := match v with
  | .tup is => some (is.map .int)
  | .loc i => (match s.os[i]? with
    | some (.lst vs) => (match fits vs.length with
      | true => some vs
      | false => none)
    | _ => none)
  | _ => none
noncomputable def viewIt : Expr → Option (Expr × Str × Pos × Pos)
  | .Call (.Attribute d y ap) [] [] cp => some (d, y, ap, cp)
  | _ => none
noncomputable def viewR : Expr → Option (Str × Pos × Str × Pos × Expr × Expr × Scope × Pos)
  | .ListComp (.Name x px) [⟨.Name x' px', iter, [t], 0⟩] sc cp => some (x, px, x', px', iter, t, sc, cp)
  | _ => none
noncomputable def viewG : Expr → Option (Expr × Str × Pos × Str × Pos × Int × Nat × Pos × Pos × Scope × Pos)
  | .ListComp elt [⟨.Name x px, .Call (.Name r rp) [.Constant (.int n) k0 np] [] cp', [], 0⟩] sc cp => some (elt, x, px, r, rp, n, k0, np, cp', sc, cp)
  | _ => none
noncomputable def stp (M : Mc) (I : In) : In where
  ev F s e k := match e with
    | .Constant (.int i) _ _ => k (.int i) s
    | .Constant (.str x) _ _ => k (.str x) s
    | .Constant .none _ _ => k .none s
    | .Constant (.bool b) _ _ => k (.bool b) s
    | .Name x _ => bindO (nameI M F s x) fun v => k v s
    | .UnaryOp .USub (.Constant (.int i) _ _) _ => k (.int (-i)) s
    | .Attribute e y _ => (match plainBase e with
      | true => I.ev F s e fun v s => bindO (fieldI M s v y) fun u => k u s
      | false => False)
    | .Subscript e (.Slice a b c _) _ => I.ev F s e fun o s => optI I F s a fun a s => optI I F s b fun b s => optI I F s c fun c s => sliceI s o a b c k
    | .Subscript e i _ => I.ev F s e fun o s => I.ev F s i fun x s => itemK s o x k
    | .Call (.Attribute o x ap) args [] pos => (match plainBase o && noStar args && Nat.blt args.length 20 && Nat.beq ap.endLine pos.line with
      | true => I.ev F s o fun ov s => (match methI M s ov x with
        | some (.fn fa) => I.sp F s args fun vs s => I.ca F.d s fa (ov :: vs) k
        | some (.bm m) => I.sp F s args fun vs s => bmI m s ov vs k
        | none => False)
      | false => False)
    | .Call (.Name x _) args [] _ => (match noStar args, bltI M F x with
      | true, some b => I.sp F s args fun vs s => btI b s vs k
      | true, none => (match F.cv, F.nm.lookup x with
        | none, some .globalImplicit => (match M.T.gl.lookup x with
          | some (.glob a) => I.sp F s args fun vs s => I.ca F.d s a vs k
          | _ => False)
        | _, _ => (match nameI M F s x, args, F.d with
          | some .lam, [_], _ + 1 => I.sp F s args fun vs s => (match vs with
            | [.int i] => k (.bool (decide (0 < i))) s
            | _ => False)
          | _, _, _ => False))
      | _, _ => False)
    | .Compare e [op] [r] _ => (match isSetE r with
      | false => I.ev F s e fun a s => I.ev F s r fun b s => bindO (cmpI s op a b) fun c => k (.bool c) s
      | true => False)
    | .BinOp e op r _ => I.ev F s e fun a s => I.ev F s r fun b s => binI s op a b k
    | .IfExp t a b _ => I.te F s t fun c s => br c (I.ev F s a k) (I.ev F s b k)
    | .List es _ => (match noStar es with
      | true => I.sp F s es fun vs s => (match fits vs.length with
        | true => newK s (.lst vs) k
        | false => False)
      | false => False)
    | .Tuple es _ _ => (match noStar es with
      | true => I.sp F s es fun vs s => (match fits vs.length with
        | true => bindO (intsU vs) fun is => k (.tup is) s
        | false => False)
      | false => False)
    | .Dict [] [] _ => newK s (.idict []) k
    | .ListComp a b c d => (match viewR (.ListComp a b c d) with
      | some (x, _, x', _, iter, t, sc, _) => (match viewIt iter with
        | some (d, y, ap, cp) => valsC I F s x x' d y ap cp t sc k
        | none => rowsC I F s x x' iter t sc k)
      | none => False)
    | _ => False
  te F s e k := match e with
    | .UnaryOp .Not e _ => I.te F s e fun b s => k (!b) s
    | .BoolOp .And [] _ => k true s
    | .BoolOp .Or [] _ => k false s
    | .BoolOp .And (e :: r) p => I.te F s e fun b s => br b (I.te F s (.BoolOp .And r p) k) (k false s)
    | .BoolOp .Or (e :: r) p => I.te F s e fun b s => br b (k true s) (I.te F s (.BoolOp .Or r p) k)
    | .Compare e [op] [r] _ => (match isSetE r with
      | false => I.ev F s e fun a s => I.ev F s r fun b s => bindO (cmpI s op a b) fun c => k c s
      | true => False)
    | .Name x p => I.ev F s (.Name x p) fun v s => (match v with
      | .bool b => k b s
      | _ => False)
    | .Attribute e y p => I.ev F s (.Attribute e y p) fun v s => (match v with
      | .bool b => k b s
      | _ => False)
    | .Call f a [] p => I.ev F s (.Call f a [] p) fun v s => (match v with
      | .bool b => k b s
      | _ => False)
    | _ => False
  sp F s es k := match es with
    | [] => k [] s
    | e :: r => I.ev F s e fun v s => I.sp F s r fun vs s => k (v :: vs) s
  ca d s fa vs k := callI M I d s fa vs k
  as F s t v k := match t with
    | .Name x _ => storeI F s x v k
    | .Attribute o y _ => I.ev F s o fun ov s => setI M s ov y v k
    | .Subscript o i _ => I.ev F s o fun ov s => I.ev F s i fun x s => putI s ov x v k
    | .Tuple ts _ _ => (match noStar ts with
      | true => bindO (itemsI s v) fun vs => (match Nat.beq ts.length vs.length with
        | true => seqAs I F ts vs s k
        | false => False)
      | false => False)
    | _ => False
  ex F s st k := match F.cv with
    | some _ => False
    | none => match st with
      | .Pass _ => k .next s
      | .Return none _ => k (.ret .none) s
      | .Return (some e) _ => I.ev F s e fun v s => k (.ret v) s
      | .Expr e _ => (match isComp e with
        | true => False
        | false => I.ev F s e fun _ s => k .next s)
      | .If t a b _ => I.te F s t fun c s => br c (I.xs F s a k) (I.xs F s b k)
      | .While t b [] _ => I.wl F s t b k
      | .For t it b [] _ => (match isSetE it || !isName t with
        | true => False
        | false => I.ev F s it fun v s => (match v with
          | .loc i => (match s.os[i]? with
            | some (.lst _) => I.fo F s t i 0 b k
            | _ => False)
          | _ => False))
      | .Assign [.Name y py] e _ => (match viewR e with
        | some (x, _, x', _, iter, t, sc, cp) => (match F.nm.lookup y == some .local && py.line == cp.line && !(sc.names.any fun (n, k) => n == y && (k == .local || k == .cell)) with
          | true => rowsC I F s x x' iter t sc fun v s => storeI F s y v (k .next)
          | false => False)
        | none => (match viewG e with
          | some (elt, x, _, r, _, n, _, _, _, sc, cp) => (match F.nm.lookup y == some .local && py.line == cp.line && !(sc.names.any fun (n, k) => n == y && (k == .local || k == .cell)) && (small n && Nat.ble n.toNat 200) && blockOk F x (.Name r cp) sc, bltI M F r with
            | true, some .range => compI I { F with nm := sc.names } x elt (fun us s => newK s (.lst us) fun v s => storeI F s y v (k .next)) ((natTab.take n.toNat).map Int.ofNat) [] s
            | _, _ => False)
          | none => (match isComp e with
            | true => False
            | false => I.ev F s e fun v s => storeI F s y v (k .next))))
      | .Assign [.Attribute o y _] e _ => I.ev F s e fun v s => I.ev F s o fun ov s => setI M s ov y v (k .next)
      | .Assign [.Subscript o (.Slice a b none _) _] e _ => I.ev F s e fun v s => I.ev F s o fun ov s => optI I F s a fun a s => optI I F s b fun b s => sliceP s ov a b v (k .next)
      | .Assign [.Subscript o i _] e _ => (match i with
        | .Slice .. => False
        | i => I.ev F s e fun v s => I.ev F s o fun ov s => I.ev F s i fun x s => putI s ov x v (k .next))
      | .Assign [.Tuple ts _ _] (.Tuple vs _ _) _ => (match noStar ts && noStar vs && Nat.beq vs.length ts.length, swapI F ts vs with
        | true, some none => I.sp F s vs fun us s => (match Nat.beq ts.length us.length && fits us.length with
          | true => seqAs I F ts us s (k .next)
          | false => False)
        | true, some (some names) => I.sp F s vs fun us s => (match Nat.beq names.length us.length && fits us.length with
          | true => seqNames F names.reverse us.reverse s (k .next)
          | false => False)
        | _, _ => False)
      | .Assign [.Tuple ts _ _] e _ => (match noStar ts with
        | true => I.ev F s e fun v s => bindO (itemsI s v) fun us => (match Nat.beq ts.length us.length with
          | true => seqAs I F ts us s (k .next)
          | false => False)
        | false => False)
      | _ => False
  xs F s l k := match l with
    | [] => k .next s
    | st :: r => I.ex F s st fun fl s => (match fl with
      | .next => I.xs F s r k
      | .ret v => k (.ret v) s)
  wl F s t b k := I.te F s t fun c s => br c (I.xs F s b fun fl s => (match fl with
    | .next => I.wl F s t b k
    | .ret v => k (.ret v) s)) (k .next s)
  fo F s t i j b k := match s.os[i]? with
    | some (.lst vs) => (match vs[j]? with
      | none => k .next s
      | some v => I.as F s t v fun s => I.xs F s b fun fl s => (match fl with
        | .next => I.fo F s t i (j + 1) b k
        | .ret v => k (.ret v) s))
    | _ => False
noncomputable def run (M : Mc) (n : Nat) : In := Nat.rec (motive := fun _ => In) In.zero (fun _ r => stp M r) n
end Mine
namespace Mine
theorem sub_ops (s : Expr) (o i : Value) : ∃ ops, subscripted s false o i = operate ops (getItem o i) := by
  cases s <;> first | exact ⟨_, rfl⟩ | skip
  rename_i a b step p
  cases step <;> exact ⟨_, rfl⟩
theorem swaps_no {e : Expr} {t : Option Expr} {line : Nat} {env : Env} (h : isComp e = false) : swapsWith e t line env = pure false := by
  cases e <;> first | rfl | cases h
theorem swaps_attr {e o : Expr} {y : Str} {p : Pos} {line : Nat} {env : Env} : swapsWith e (some (.Attribute o y p)) line env = pure false := by
  cases e <;> rfl
theorem swaps_sub {e o i : Expr} {p : Pos} {line : Nat} {env : Env} : swapsWith e (some (.Subscript o i p)) line env = pure false := by
  cases e <;> rfl
theorem swaps_tup {e : Expr} {ts : List Expr} {k : Nat} {p : Pos} {line : Nat} {env : Env} : swapsWithSole [.Tuple ts k p] e line env = pure false := by
  cases e <;> rfl
theorem star_no {e : Expr} {rest : List Expr} {env : Env} (h : isStar e = false) : starEach (e :: rest) env = (false, eval e env) :: starEach rest env := by
  cases e <;> first | rfl | cases h
theorem as_no {e : Expr} {rest : List Expr} {env : Env} (h : isStar e = false) : assignEach (e :: rest) env = (false, assign e env) :: assignEach rest env := by
  cases e <;> first | rfl | cases h
theorem noStar_cons {e : Expr} {es : List Expr} (h : noStar (e :: es) = true) : isStar e = false ∧ noStar es = true := by
  unfold noStar at h ⊢
  simpa only [List.all_cons, Bool.and_eq_true, Bool.not_eq_true'] using h
theorem stars_no {pos : Pos} {env : Env} : ∀ {es : List Expr}, noStar es = true → (backTo pos (starEach es env)).any (·.1) = false
  | [], _ => by cases pos; rfl
  | e :: es, h => by
    obtain ⟨h1, h2⟩ := noStar_cons h
    rw [star_no h1]
    have := stars_no (pos := pos) (env := env) h2
    show (false || (backTo pos (starEach es env)).any (·.1)) = false
    rw [this]; rfl
theorem ases_len {env : Env} : ∀ {es : List Expr}, noStar es = true → (assignEach es env).length = es.length
  | [], _ => rfl
  | e :: es, h => by
    obtain ⟨h1, h2⟩ := noStar_cons h
    rw [as_no h1, List.length_cons, List.length_cons, ases_len h2]
theorem ases_star {env : Env} : ∀ {es : List Expr}, noStar es = true → (assignEach es env).findIdx? (·.1) = none
  | [], _ => rfl
  | e :: es, h => by
    obtain ⟨h1, h2⟩ := noStar_cons h
    rw [as_no h1, List.findIdx?_cons]
    have := ases_star (env := env) h2
    simp [this]
theorem marks_no {op : CmpOp} {r : Expr} (h : isSetE r = false) : behindInMarks op r = false := by
  cases r <;> first | rfl | cases h
theorem fold_no {e : Expr} {env : Env} (h : isSetE e = false) (x : Value) : foldedSetIterable e env x = pure x := by
  cases e <;> first | rfl | cases h
theorem base_no {o : Expr} {x : Str} {env : Env} {t : Sem Value} (h : plainBase o = true) : attributeBase o x env t = t := by
  unfold attributeBase
  cases o with
  | Call f a k p => cases f <;> first | rfl | cases h
  | Name => rfl
  | Attribute => rfl
  | Subscript => rfl
  | _ => cases h
theorem mc_form {args : List Expr} {env : Env} {pos : Pos} (h : noStar args = true) (hl : args.length < 20) : methodCallForm (args.length + ([] : List Keyword).length) (backTo pos (starEach args env)) (backToKw pos (keywordEach [] env)) = true := by
  unfold methodCallForm
  have h1 : (backTo pos (starEach args env)).all (fun x => !x.1) = true := by
    have := stars_no (pos := pos) (env := env) h
    rw [List.all_eq_not_any_not]
    simp only [Bool.not_not, this, Bool.not_false]
  rw [h1]
  show (true && true && decide (args.length + 0 + 0 < 30)) = true
  rw [decide_eq_true (by omega)]; rfl
theorem mc_eq {o : Expr} {x : Str} {args : List Expr} {ap pos : Pos} {env : Env} (hb : plainBase o = true) (h : noStar args = true) (hl : args.length < 20) (hp : ap.endLine = pos.line) :
    eval (.Call (.Attribute o x ap) args [] pos) env = (do
      let ov ← eval o env
      standAt ap.atName
      let (f, first) ← holding [ov] (getMethod ov x (do return (← importBound o env).getD true))
      callWith pos f first (backTo pos (starEach args env)) []) := by
  show (do
      let ov ← attributeBase o x env (eval o env)
      standAt ap.atName
      methodCall o x ap pos env ov (args.length + ([] : List Keyword).length) (backTo pos (starEach args env)) (backToKw pos (keywordEach [] env))) = _
  rw [base_no hb]
  unfold methodCall
  rw [mc_form h hl]
  have hq : ∀ e : Expr, methodCallPos true e env ap pos = pure pos := fun e => by
    unfold methodCallPos
    rw [if_pos (by simp [hp])]
  simp only [hq, calleeOf, if_true]
  rfl
section
variable {K : Frag} {c : Cx} {A : Around} {env : Env} {nm : List (Str × NameKind)} {L : Addr} {cl : List (Str × Addr)} {g h : Heap} {n : Nat} {m : Str → Option Value} {ls ls' : List (Str × Option AV)} {l l' : List (Addr × AObj)} {i : Int} {t : Tok}
theorem gi_lst {e s : Expr} {d : Addr} {vs : List AV} {av : AV} {Q : Value → Heap → Prop} (D : ST c g L m ls h l) (hm : (d, .lst vs) ∈ l) (h0 : 0 ≤ i) (h1 : i < 2 ^ 63) (hx : vs[i.toNat]? = some av) (q : av.All fun v => Q v h) :
    W c A (subscriptTail e s (.ref d) (.int i t)) h Q := fun tk => by
  obtain ⟨ws, n, h2, h3⟩ := D.lst hm
  obtain ⟨v, h4, h5⟩ := h3.get hx
  obtain ⟨ops, hs⟩ := sub_ops s (.ref d) (.int i t)
  have hl : h.IsList d ws.toArray := PySem.IsL.isList (n := n) h2
  exact tail_any (s := ⟨h, c.g, c.d, tk, c.o⟩) (Heap.IsList.typeIs hl) slot_list_getitem.lookup (wpAny_getItem_list hl h0 h1 (by simpa using h4) ⟨_, _, rfl, q v h5⟩) hs
theorem gi_last {e s : Expr} {d : Addr} {vs : List AV} {av : AV} {Q : Value → Heap → Prop} (D : ST c g L m ls h l) (hm : (d, .lst vs) ∈ l) (hx : vs.getLast? = some av) (q : av.All fun v => Q v h) :
    W c A (subscriptTail e s (.ref d) (.int (-1) t)) h Q := fun tk => by
  obtain ⟨ws, n, h2, h3⟩ := D.lst hm
  have hl := h3.length
  rw [List.getLast?_eq_getElem?] at hx
  obtain ⟨v, h4, h5⟩ := h3.get hx
  obtain ⟨ops, hs⟩ := sub_ops s (.ref d) (.int (-1) t)
  have hL : h.IsList d ws.toArray := PySem.IsL.isList (n := n) h2
  have hne : 0 < vs.length := by
    have := (List.getElem?_eq_some_iff.mp hx).1; omega
  refine tail_any (s := ⟨h, c.g, c.d, tk, c.o⟩) (Heap.IsList.typeIs hL) slot_list_getitem.lookup (wpAny_getItem_list_neg hL (by decide) (by simp; omega) (by decide) ?_ ⟨_, _, rfl, q v h5⟩) hs
  rw [← h4]
  have : ((-1 : Int) + (ws.toArray.size : Int)).toNat = vs.length - 1 := by simp; omega
  rw [this]
  simp
theorem gi_tup {e s : Expr} {d : Addr} {vs : List AV} {av : AV} {k : Nat} {Q : Value → Heap → Prop} (D : ST c g L m ls h l) (hm : (d, .tup vs) ∈ l) (h0 : -(2 ^ 63) ≤ i) (h1 : i < 2 ^ 63) (hj : seqIndex? i vs.length = some k) (hx : vs[k]? = some av) (q : av.All fun v => Q v h) :
    W c A (subscriptTail e s (.ref d) (.int i t)) h Q := fun tk => by
  obtain ⟨ws, h2, h3⟩ := D.tup hm
  obtain ⟨v, h4, h5⟩ := h3.get hx
  obtain ⟨ops, hs⟩ := sub_ops s (.ref d) (.int i t)
  exact tail_any (s := ⟨h, c.g, c.d, tk, c.o⟩) h2.typeIs slot_tuple_getitem.lookup (getItem_tuple h2 h0 h1 (by simpa using h3.length ▸ hj) (by simpa using h4) ⟨_, _, rfl, q v h5⟩) hs
theorem gi_dict {e s : Expr} {d : Addr} {kvs : List (Int × AV)} {av : AV} {Q : Value → Heap → Prop} (D : ST c g L m ls h l) (hm : (d, .idict kvs) ∈ l) (hx : kvs.lookup i = some av) (q : av.All fun v => Q v h) :
    W c A (subscriptTail e s (.ref d) (.int i t)) h Q := fun tk => by
  obtain ⟨r, hr, N⟩ := D.ld.nw
  obtain ⟨o, h1, kws, h2, h3⟩ := hr.mem hm
  obtain ⟨v, h4, h5⟩ := h3.at hx
  obtain ⟨ops, hs⟩ := sub_ops s (.ref d) (.int i t)
  have hD := kda_dict (s := ⟨h, c.g, c.d, tk, c.o⟩) N h1 h2
  exact tail_any (s := ⟨h, c.g, c.d, tk, c.o⟩) hD.typeIs slot_dict_getitem.lookup (wpAny_getItem_of (intKind_is c.prog c.w i t) hD.mapOf h4 ⟨_, _, rfl, q v h5⟩) hs
theorem gi_slice {value slice : Expr} {d sl : Addr} {vs : List AV} {vl vu vk : Value} {lo hi st : Option Int} {Q : Value → Heap → Prop} (D : ST c g L m ls h l) (hm : (d, .lst vs) ∈ l) (hsl : (sl, .raw (sliceO vl vu vk)) ∈ l)
    (pl : IsPart vl lo) (pu : IsPart vu hi) (pk : IsPart vk st) (h0 : st ≠ some 0) (hz : vs.length ≤ 1000000) (q : ∀ r h', (∀ ls l, ST c g L m ls h l → ST c g L m ls h' ((r, .lst (pickA vs lo hi st)) :: l)) → Q (.ref r) h') :
    W c A (subscriptTail value slice (.ref d) (.ref sl)) h Q := fun tk => by
  obtain ⟨ws, n', h2, h3⟩ := D.lst hm
  obtain ⟨o, h4, h5⟩ := D.at hsl
  cases h5
  obtain ⟨ops, hs⟩ := sub_ops slice (.ref d) (.ref sl)
  have hl := h3.length
  have hL : h.IsList d ws.toArray := PySem.IsL.isList (n := n') h2
  refine tail_any (s := ⟨h, c.g, c.d, tk, c.o⟩) (Heap.IsList.typeIs hL) list_getitem_lookup (wpAny_getItem_list_slice hL ⟨_, h4, rfl, rfl⟩ pl pu pk h0 ⟨_, tk, rfl, q _ _ fun ls l D => (D.alloc (x := .lst _) ⟨(slicePick ws.toArray lo hi st).toList, 0, ?_, h3.pick lo hi st⟩ rfl)⟩ (by rw [List.size_toArray, sizeLine_eq, ← hl]; omega)) hs
  rw [Array.toArray_toList]
theorem l_neg {k : Nat} {p pos : Pos} {Q : Value → Heap → Prop} (q : ∀ t, Q (.int (-i) t) h) : W c A (eval (.UnaryOp .USub (.Constant (.int i) k p) pos) env) h Q := fun tk =>
  UnaryOp_ (wpAny_Constant_int (neg_int ⟨_, _, rfl, q _⟩))
theorem e_mcallG {o : Expr} {x : Str} {args : List Expr} {ap pos : Pos} {Q : Value → Heap → Prop} (hb : plainBase o = true) (hs : noStar args = true) (hl : args.length < 20) (hp : ap.endLine = pos.line)
    (k : W c A (eval o env) h (fun ov h₁ => ∀ pl, W c A (getMethod ov x pl) h₁ (fun fx h₂ => W c A (callWith pos fx.1 fx.2 (backTo pos (starEach args env)) []) h₂ Q))) : W c A (eval (.Call (.Attribute o x ap) args [] pos) env) h Q :=
  e_mcall (k.mono fun ov h₁ q => q _) (mc_eq hb hs hl hp)
theorem e_attrG {e : Expr} {y : Str} {pos : Pos} {Q : Value → Heap → Prop} (hb : plainBase e = true) (k : W c A (eval e env) h (fun ov h₁ => W c A (getAttr ov y true) h₁ Q)) : W c A (eval (.Attribute e y pos) env) h Q := by
  cases e with
  | Name x p => exact e_attrN k
  | Attribute e' y' p => exact e_attr k (by rfl)
  | Subscript e' i' p => exact e_attr k (by rfl)
  | Call f a kw p => cases f with
    | Attribute => exact e_attr k (by rfl)
    | _ => cases hb
  | _ => cases hb
theorem sp_consG {e : Expr} {rest : List Expr} {pos : Pos} {Q : List Value → Heap → Prop} (hs : isStar e = false) (k : W c A (eval e env) h (fun v h₁ => W c A (spliced (backTo pos (starEach rest env))) h₁ (fun vs h₂ => Q (v :: vs) h₂))) :
    W c A (spliced (backTo pos (starEach (e :: rest) env))) h Q := sp_cons k (star_no hs)
theorem st_cell {x : Str} {ca : Addr} {o₀ : Option AV} {av : AV} {v : Value} {Q : Unit → Heap → Prop} (f : FO K c A env nm L cl g n) (D : ST c g L m ls h l) (hk : (x, .cell) ∈ nm) (hc : (x, ca) ∈ cl) (u : UpdA ca (.cell o₀) (.cell (some av)) l l') (hv : av.is v)
    (q : ∀ h', ST c g L m ls h' l' → Q () h') : W c A (storeName env x v) h Q := fun tk => by
  obtain ⟨cn, cs, a, ccd, rfl, rfl, hkd⟩ := f.env_
  obtain ⟨r, hr, N⟩ := D.ld.nw
  obtain ⟨o, G, h2, U, up⟩ := u.toF D.ld.nd hr
  have hd : ∃ v₀, o.data = .cell v₀ := by
    cases o₀ with
    | none => exact ⟨_, h2⟩
    | some y => obtain ⟨w, h3, _⟩ := h2; exact ⟨_, h3⟩
  obtain ⟨v₀, hd⟩ := hd
  refine storeX_C (s := ⟨h, c.g, c.d, tk, c.o⟩) D.ld.fr N (lookup_of_mem f.cnd hc) U hd (fun h' o' F' N' hd' => ⟨h', _, rfl, q h' ⟨D.lo, F', by rw [u.keys]; exact D.ld.nd, _, up o' ⟨v, hd', hv⟩, N'⟩⟩) hkd (lookup_of_mem f.nms hk)
theorem draw_lst {d it : Addr} (vs : List AV) (hm : (d, .lst vs) ∈ l) : ∀ (k i : Nat) (o : Obj) (h : Heap) (Q : List Value → Heap → Prop), ST c g L m ls h ((it, .raw o) :: l) → IsIt o d i → i + k ≤ vs.length →
    (∀ ws o' h', AVs ((vs.drop i).take k) ws → IsIt o' d (i + k) → ST c g L m ls h' ((it, .raw o') :: l) → Q ws h') → W c A (draw (.ref it) k) h Q
  | 0, i, o, h, Q, D, io, _, q => by
    show W c A (pure []) h Q
    exact W.pure (q [] o h (by simp; exact .nil) io D)
  | k + 1, i, o, h, Q, D, io, hle, q => by
    show W c A (pyNext (.ref it) >>= _) h Q
    have hx : vs[i]? = some vs[i] := List.getElem?_eq_getElem (by omega)
    refine W.bind (it_next D io hm hx fun v hv o' h' io' D' => ?_)
    refine W.bind ?_
    refine fun tk => wpAny_holding (draw_lst vs hm k (i + 1) o' h' _ D' io' (by omega) (fun ws o₂ h₂ hw io₂ D₂ => ?_) tk)
    refine W.pure (q _ o₂ h₂ ?_ (by rw [show i + (k + 1) = i + 1 + k by omega]; exact io₂) D₂)
    rw [List.drop_eq_getElem_cons (by omega), List.take_succ_cons]
    exact .cons hv hw
theorem un_lst {d : Addr} {vs : List AV} {n' : Nat} {Q : List Value → Heap → Prop} (f : FO K c A env nm L cl g n) (D : ST c g L m ls h l) (hm : (d, .lst vs) ∈ l) (hn : n' = vs.length)
    (q : ∀ ws h', AVs vs ws → ST c g L m ls h' l → Q ws h') : W c A (unpackItems (.ref d) n' none) h Q := fun tk => by
  subst hn
  obtain ⟨ws₀, n₀, h2, h3⟩ := D.lst hm
  have hL : h.IsList d ws₀.toArray := PySem.IsL.isList (n := n₀) h2
  unfold unpackItems
  refine wpAny_bind ?_
  unfold notIterableAtAll
  refine wpAny_bind (wpAny_specialOf (s := ⟨h, c.g, c.d, tk, c.o⟩) (Heap.IsList.typeIs hL) slot_list_iter.lookup ?_)
  refine wpAny_pure ?_
  simp only [Bool.false_eq_true, if_false]
  refine wpAny_bind (wpAny_holding ?_)
  refine (it_new (A := A) (Q := fun v h' => W c A (do
      let items ← holding [v] (draw v vs.length)
      if items.length < vs.length then
        rule "unpack.too-few"; raiseError "ValueError" s!"not enough values to unpack (expected {vs.length}, got {items.length})"
      if (← holding items (pyNext v)).isSome then
        rule "unpack.too-many"; raiseError "ValueError" s!"too many values to unpack (expected {vs.length})"
      return items) h' Q) D hm fun it o h' io D' => ?_).use fun a h' tk' q => q tk'
  refine W.bind fun tk => wpAny_holding (draw_lst vs hm vs.length 0 o h' _ D' io (by omega) (fun ws o₂ h₂ hw io₂ D₂ => ?_) tk)
  rw [List.drop_zero, List.take_length] at hw
  rw [if_neg (by rw [← hw.length]; omega)]
  refine W.bind (fun tk => wpAny_holding (it_end f D₂ io₂ hm (by simp) (fun h₃ D₃ => ?_) tk))
  simp only [Option.isSome_none, Bool.false_eq_true, if_false]
  exact W.pure (q ws h₃ hw D₃)
end
end Mine
namespace Mine
theorem bindL_skip {kd : Str → Option NameKind} : ∀ {b : List (Str × Value)} {m : Str → Option Value} {x : Str}, x ∉ b.map (·.1) → bindL kd b m x = m x
  | [], _, _, _ => rfl
  | (n, v) :: r, m, x, h => by
    rw [List.map_cons, List.mem_cons, not_or] at h
    unfold bindL
    rw [bindL_skip h.2]
    split
    · exact if_neg h.1
    · rfl
theorem bindL_get {kd : Str → Option NameKind} : ∀ {b : List (Str × Value)} {m : Str → Option Value} {x : Str} {v : Value}, (b.map (·.1)).Nodup → b.lookup x = some v → kd x = some .local → bindL kd b m x = some v
  | [], _, _, _, _, h, _ => by cases h
  | (n, w) :: r, m, x, v, nd, h, hk => by
    rw [List.map_cons, List.nodup_cons] at nd
    rw [List.lookup_cons] at h
    unfold bindL
    split at h
    · rename_i e
      have e := eq_of_beq e
      subst e
      cases h
      rw [bindL_skip nd.1, if_pos hk]
      simp
    · exact bindL_get nd.2 h hk
theorem bindC_skip {kd : Str → Option NameKind} : ∀ {b : List (Str × Value)} {m : Str → Option Value} {x : Str}, x ∉ b.map (·.1) → bindC kd b m x = m x
  | [], _, _, _ => rfl
  | (n, v) :: r, m, x, h => by
    rw [List.map_cons, List.mem_cons, not_or] at h
    unfold bindC
    rw [bindC_skip h.2]
    split
    · rfl
    · exact if_neg h.1
theorem bindC_get {kd : Str → Option NameKind} : ∀ {b : List (Str × Value)} {m : Str → Option Value} {x : Str}, (b.map (·.1)).Nodup → kd x ≠ some .local → m x = none → bindC kd b m x = b.lookup x
  | [], m, x, _, _, hm => by rw [show bindC kd [] m x = m x from rfl, hm]; rfl
  | (n, w) :: r, m, x, nd, hk, hm => by
    rw [List.map_cons, List.nodup_cons] at nd
    rw [List.lookup_cons]
    unfold bindC
    cases e : x == n with
    | true =>
      have e := eq_of_beq e
      subst e
      rw [bindC_skip nd.1, if_neg hk]
      simp
    | false =>
      have e : x ≠ n := fun q => by subst q; simp at e
      refine bindC_get nd.2 hk ?_
      split
      · exact hm
      · exact (if_neg e).trans hm
theorem cellsFrom_at {lo : Nat} : ∀ (names : List (Str × NameKind)) (n : Nat) (acc : List (Str × Addr)), lo < n → (acc.map (·.2)).Nodup → (∀ p ∈ acc, lo < p.2 ∧ p.2 < n) → ((cellsFrom n names acc).map (·.2)).Nodup ∧ ∀ p ∈ cellsFrom n names acc, lo < p.2
  | [], n, acc, _, nd, h => ⟨nd, fun p hp => (h p hp).1⟩
  | (x, k) :: r, n, acc, hn, nd, h => by
    unfold cellsFrom
    split
    · refine cellsFrom_at r (n + 1) _ (by omega) ?_ ?_
      · rw [List.map_cons, List.nodup_cons]
        refine ⟨fun hm => ?_, nd⟩
        obtain ⟨p, hp, e⟩ := List.mem_map.mp hm
        have := (h p hp).2
        have e : p.2 = n := e
        exact Nat.lt_irrefl n (e ▸ this)
      · intro p hp
        rcases List.mem_cons.mp hp with rfl | hp
        · exact ⟨hn, Nat.lt_succ_self _⟩
        · have := h p hp; exact ⟨this.1, Nat.lt_succ_of_lt this.2⟩
    · exact cellsFrom_at r n acc hn nd h
theorem cellsFrom_keys : ∀ (names : List (Str × NameKind)) (n : Nat) (acc : List (Str × Addr)), (cellsFrom n names acc).map (·.1) = ((names.filter fun p => p.2 == .cell).map (·.1)).reverse ++ acc.map (·.1)
  | [], _, _ => by simp [cellsFrom]
  | (x, k) :: r, n, acc => by
    unfold cellsFrom
    cases hk : k == NameKind.cell with
    | true => rw [if_pos rfl, cellsFrom_keys r]; simp [List.filter_cons, hk]
    | false => rw [if_neg (by simp), cellsFrom_keys r]; simp [List.filter_cons, hk]
section
variable {names : List (Str × NameKind)} {x : Str} {a : Addr}
theorem cells_nd (hnm : (names.map (·.1)).Nodup) (n : Nat) : ((cellsFrom n names []).map (·.1)).Nodup := by
  rw [cellsFrom_keys, List.map_nil, List.append_nil]
  exact (List.reverse_perm _).nodup_iff.mpr (hnm.sublist (List.filter_sublist.map _))
theorem cells_kind (hnm : (names.map (·.1)).Nodup) {n : Nat} (hm : (x, a) ∈ cellsFrom n names []) : names.lookup x = some .cell := by
  have : x ∈ (cellsFrom n names []).map (·.1) := List.mem_map_of_mem hm
  rw [cellsFrom_keys, List.map_nil, List.append_nil, List.mem_reverse] at this
  obtain ⟨q, hq, rfl⟩ := List.mem_map.mp this
  obtain ⟨hq, e⟩ := List.mem_filter.mp hq
  obtain ⟨y, k⟩ := q
  cases (eq_of_beq e : k = .cell)
  exact lookup_of_mem hnm hq
theorem cells_some (hnm : (names.map (·.1)).Nodup) {n : Nat} (e : names.lookup x = some .cell) : ((cellsFrom n names []).lookup x).isSome = true := by
  have : x ∈ (cellsFrom n names []).map (·.1) := by
    rw [cellsFrom_keys, List.map_nil, List.append_nil, List.mem_reverse]
    exact List.mem_map.mpr ⟨(x, .cell), List.mem_filter.mpr ⟨mem_of_lookup e, rfl⟩, rfl⟩
  obtain ⟨q, hq, e'⟩ := List.mem_map.mp this
  obtain ⟨y, z⟩ := q
  subst e'
  rw [lookup_of_mem (cells_nd hnm n) hq]; rfl
end
inductive BAs : List (Str × AV) → List (Str × Value) → Prop
  | nil : BAs [] []
  | cons {x a v b r} : AV.is a v → BAs b r → BAs ((x, a) :: b) ((x, v) :: r)
theorem BAs.lookup {b : List (Str × AV)} {r : List (Str × Value)} (h : BAs b r) (x : Str) : match b.lookup x with
    | some a => ∃ v, r.lookup x = some v ∧ a.is v
    | none => r.lookup x = none := by
  induction h with
  | nil => rfl
  | @cons y a v b r q _ ih =>
    rw [List.lookup_cons, List.lookup_cons]
    cases x == y with
    | true => exact ⟨v, rfl, q⟩
    | false => exact ih
theorem BAs.zip {xs : List AV} {vs : List Value} (h : AVs xs vs) : ∀ ns : List Str, BAs (ns.zip xs) (ns.zip vs) := by
  induction h with
  | nil => intro ns; simp; exact .nil
  | cons a _ ih =>
    intro ns
    cases ns with
    | nil => exact .nil
    | cons n ns => exact .cons a (ih ns)
noncomputable def cellL (cs : List (Str × Addr)) (b : List (Str × AV)) : List (Addr × AObj) := cs.map fun p => (p.2, AObj.cell (b.lookup p.1))
theorem led_cells {c : Cx} {kd : Str → Option NameKind} {b : List (Str × AV)} {r : List (Str × Value)} (hb : BAs b r) (nd : (r.map (·.1)).Nodup) : ∀ {cs : List (Str × Addr)} {cells : List (Addr × Obj)}, CellsAre (bindC kd r fun _ => none) cs cells → (∀ p ∈ cs, kd p.1 ≠ some .local) → Led c (cellL cs b) cells := by
  intro cs cells h
  induction h with
  | nil => intro _; exact .nil
  | @cons n a o cs cells hd _ ih =>
    intro hk
    refine .cons ?_ (ih fun p hp => hk p (.tail _ hp))
    rw [bindC_get nd (hk _ (.head _)) rfl] at hd
    have := hb.lookup n
    show AObj.Is c (.cell (b.lookup n)) o
    cases e : b.lookup n with
    | none => rw [e] at this; rw [this] at hd; exact hd
    | some x =>
      rw [e] at this
      obtain ⟨v, h1, h2⟩ := this
      rw [h1] at hd
      exact ⟨v, hd, h2⟩
noncomputable def locsA (nm : List (Str × NameKind)) (b : List (Str × AV)) : List (Str × Option AV) := (nm.filter fun p => p.2 == .local).map fun p => (p.1, b.lookup p.1)
section
variable {K : Frag} {c : Cx} {A : Around} {env : Env} {nm : List (Str × NameKind)} {L : Addr} {cl : List (Str × Addr)} {g h : Heap} {n : Nat} {m : Str → Option Value} {ls ls' : List (Str × Option AV)} {l l' : List (Addr × AObj)}
noncomputable def BodyC (K : Frag) (c : Cx) (nm' : List (Str × NameKind)) (body : List Stmt) (g : Heap) (L : Addr) (m : Str → Option Value) (ls : List (Str × Option AV)) (n : Nat) (b : List (Str × AV)) (l : List (Addr × AObj)) (Q : Value → Heap → Prop) : Prop :=
  ∀ A' env' g' L' h' m₁ cs, cs.map (·.1) = ((nm'.filter fun p => p.2 == .cell).map (·.1)).reverse → FO K c A' env' nm' L' cs g' n → ST c g' L' m₁ (locsA nm' b) h' (cellL cs b ++ l) →
    W c A' (execs body env') h' (fun fl h₂ => ∃ m₂ ls₂ l₂, ST c g' L' m₂ ls₂ h₂ l₂ ∧ (ST c g L m ls h₂ l₂ → Q (retOf fl) h₂))
theorem loc_locsA {nm : List (Str × NameKind)} {kd : Str → Option NameKind} (hkd : ∀ x, kd x = nm.lookup x) (hnm : (nm.map (·.1)).Nodup) {b : List (Str × AV)} {r : List (Str × Value)} (hb : BAs b r) (nd : (r.map (·.1)).Nodup) :
    Loc (locsA nm b) (bindL kd r fun _ => none) := by
  unfold locsA
  refine ⟨?_, fun x av hm => ?_⟩
  · rw [List.map_map]
    have : ((nm.filter fun p => p.2 == .local).map fun p => p.1).Sublist (nm.map (·.1)) := (List.filter_sublist).map _
    exact hnm.sublist this
  · obtain ⟨p, hp, e⟩ := List.mem_map.mp hm
    obtain ⟨hp, hk⟩ := List.mem_filter.mp hp
    obtain ⟨y, k⟩ := p
    cases (eq_of_beq hk : k = .local)
    simp only [Prod.mk.injEq] at e
    obtain ⟨rfl, e⟩ := e
    have := hb.lookup y
    rw [e] at this
    obtain ⟨v, h1, h2⟩ := this
    exact ⟨v, bindL_get nd h1 ((hkd y).trans (lookup_of_mem hnm hp)), h2⟩
theorem code_fnC {R : Result → Shared → Prop} {name qual : Str} {params : Arguments} {body : List Stmt} {scope : Scope} {dV kV doc pm cdv ct : Value} {an : Option Addr} {fo : Obj} {fa : Addr} {args : Args} {binds : List (Str × Value)} {b : List (Str × AV)} {tk : Nat}
    (f : FO K c A env nm L cl g (n + 1)) (D : ST c g L m ls h l) (ho : h.get? fa = some fo) (hd : fo.data = .func (fnX name qual params body scope [] dV kV doc pm an cdv ct)) (hcd : h.CodeRec cdv qual)
    (hbind : BindsTo ⟨h, c.g, c.d, tk, c.o⟩ (fnX name qual params body scope [] dV kV doc pm an cdv ct) args binds) (hb : BAs b binds) (nd : (binds.map (·.1)).Nodup) (hloc : ∀ y ∈ binds, scope.names.lookup y.1 = some .local ∨ scope.names.lookup y.1 = some .cell) (hnm : (scope.names.map (·.1)).Nodup)
    (k : BodyC K c scope.names body g L m ls n b l (fun v h₂ => ∀ tk', R (.ok (.ret v)) ⟨h₂, c.g, c.d, tk', c.o⟩))
    (hco : scope.isCoroutine = false) (hgen : scope.isGenerator = false) (hk : scope.kind = .function) :
    codeAny (model c.prog c.w) A (.call (.ref fa) args) R ⟨h, c.g, c.d, tk, c.o⟩ := by
  obtain ⟨r, hr, N⟩ := D.ld.nw
  obtain ⟨p, loose, mean, mg, mb, T⟩ := f.T
  obtain ⟨A₀, base, outer, B, hA⟩ := f.B
  obtain ⟨cn, cs, a, ccd, he, hn', hkd⟩ := f.env_
  have keys : ∀ n, (cellsFrom n scope.names []).map (·.1) = ((scope.names.filter fun p => p.2 == .cell).map (·.1)).reverse := fun n => by rw [cellsFrom_keys]; simp
  have knd := cells_nd hnm
  refine callX_cells (s := ⟨h, c.g, c.d, tk, c.o⟩) B D.ld.fr N T.nolimit hA (by rw [he]) (by rw [he]; exact hkd) ho hd hcd (by have := f.dp; unfold recursionLimit; omega) hbind (fun n x hx => ?_) (knd 0) (fun g' L' h₁ tk' cells FG F' N' Y B' st hlt => ?_) hco hgen hk
  · exact (hloc x hx).imp_right fun e => ⟨e, cells_some hnm e⟩
  · obtain ⟨c1, c2⟩ := cellsFrom_at (lo := L') scope.names (L' + 1) [] (Nat.lt_succ_self _) .nil (fun p hp => nomatch hp)
    have kd : ∀ x, (envOfC qual scope L' fa cdv).kindOf x = scope.names.lookup x := fun x => rfl
    have LC : Led c (cellL (cellsFrom (L' + 1) scope.names []) b) cells := led_cells hb nd Y fun p hp => by
      rw [kd, cells_kind hnm (a := p.2) hp]; decide
    have hcat : ∀ {l₁ l₂ : List (Addr × AObj)} {r₁ r₂ : List (Addr × Obj)}, Led c l₁ r₁ → Led c l₂ r₂ → Led c (l₁ ++ l₂) (r₁ ++ r₂) := fun {l₁ l₂ r₁ r₂} h1 h2 => by
      induction h1 with
      | nil => exact h2
      | cons a _ ih => exact .cons a ih
    have S : ST c g' L' (bindL (envOfC qual scope L' fa cdv).kindOf binds fun _ => none) (locsA scope.names b) h₁ (cellL (cellsFrom (L' + 1) scope.names []) b ++ l) := by
      refine ⟨loc_locsA kd hnm hb nd, F', ?_, _, hcat LC hr, N'⟩
      rw [List.map_append, List.nodup_append]
      refine ⟨?_, D.ld.nd, fun x hx y hy e => ?_⟩
      · unfold cellL; rw [List.map_map]; exact c1
      · subst e
        unfold cellL at hx
        rw [List.map_map] at hx
        obtain ⟨q, hq, rfl⟩ := List.mem_map.mp hx
        rw [← hr.keys] at hy
        obtain ⟨q', hq', e⟩ := List.mem_map.mp hy
        have h1 := c2 q hq
        have h2 := hlt q' hq'
        have e : q'.1 = q.2 := e
        rw [e] at h2
        exact Nat.lt_irrefl _ (Nat.lt_trans h1 h2)
    have fo' := f.push (qual := qual) (sc := scope) (L' := L') (fa := fa) (cd := cdv) (cl' := cellsFrom (L' + 1) scope.names []) hA B' st hk hnm (knd _)
    refine wpAny_mono (k _ _ g' L' h₁ _ _ (keys _) fo' S tk') (fun fl s' ⟨h₂, tk₂, e, m₂, ls₂, l₂, D₂, q⟩ => ?_) fun _ _ x => x.elim
    subst e
    obtain ⟨r₂, hr₂, N₂⟩ := D₂.ld.nw
    suffices z : LeaveK g L m g' R (retOf fl) ⟨h₂, c.g, c.d, tk₂, c.o⟩ by cases fl <;> exact z
    exact ⟨_, _, _, D₂.ld.fr, N₂, fun F'' N'' => q ⟨D.lo, F'', D₂.ld.nd, r₂, hr₂, N''⟩ tk₂⟩
end
end Mine
namespace Mine
noncomputable def valU : Value → Option U
  | .none => some .none
  | .bool b => some (.bool b)
  | .int i _ => some (.int i)
  | .str s _ => some (.str s)
  | _ => none
noncomputable def dfK (K : Frag) : Value → Option (List U)
  | .none => some []
  | .ref a => (match K.lookup a with
    | some ⟨_, _, .seq xs _, _⟩ => xs.toList.mapM valU
    | _ => none)
  | _ => none
noncomputable def nodupS : List Str → Bool
  | [] => true
  | x :: r => !r.contains x && nodupS r
noncomputable def fnOk (K : Frag) (fd : FuncData) : Bool :=
  plainPar fd.params && fd.scope.kind == .function && !fd.scope.isCoroutine && !fd.scope.isGenerator && fd.closure.isEmpty && Nat.beq fd.globals mainGlobals && Nat.beq fd.builtins builtinsNs && codeIn K fd.code fd.qualname &&
    nodupS (fd.scope.names.map (·.1)) && nodupS (fd.params.args.map (·.arg)) && (fd.params.args.all fun a => fd.scope.names.lookup a.arg == some .local || fd.scope.names.lookup a.arg == some .cell) &&
    (fd.scope.names.all fun p => p.1 != ("__debug__" : Str) && p.1 != ("__classdict__" : Str))
noncomputable def fnK (K : Frag) (fa : Addr) : Option FnI := match K.lookup fa with
  | some ⟨_, _, .func fd, _⟩ => (match fd.body, dfK K fd.defaults, fnOk K fd with
    | .stmts body, some df, true => some ⟨fd.scope.names, fd.params.args.map (·.arg), df, body, ((fd.scope.names.filter fun p => p.2 == .cell).map (·.1)).reverse⟩
    | _, _, _ => none)
  | _ => none
noncomputable def ss (l : List String) : List Str := l.map Str.ofString
noncomputable def sg (l : List (String × Addr)) : List (Str × U) := l.map fun p => (Str.ofString p.1, .glob p.2)
noncomputable def sa (l : List (String × Addr)) : List (Str × Addr) := l.map fun p => (Str.ofString p.1, p.2)
noncomputable def tabs : Tabs where
  gl := sg [("insert", 145), ("put_in", 137), ("need_writable", 88), ("need_room", 95), ("reached", 102), ("tell_ahead", 109), ("tell_behind", 116), ("text_in", 123), ("hung_in", 130), ("split_right", 1061), ("split", 1046), ("split_parts", 1032),
    ("combined", 1039), ("joined", 1053), ("set_tree_size", 1018), ("set_places", 1025), ("leaves_under", 989), ("windows_under", 996), ("replace_child", 1003), ("least_size", 1008), ("along", 975), ("sort_along", 982), ("previous_buffer", 210),
    ("show_buffer", 205), ("without", 199), ("_law_draw", 1068), ("_law_window", 1075), ("_law_behind", 1080), ("Editor", 536), ("BufferTable", 837), ("Buffer", 733), ("GapText", 627), ("Markers", 368), ("Window", 893), ("WindowTree", 964), ("CommandTable", 190),
    ("Keymap", 263), ("Amalgam", 38)] ++ ([("LONGEST", 4194304), ("LEAF", 0), ("COLUMN", 1), ("ROW", 2), ("WIDTH", 0), ("HEIGHT", 1)] : List (String × Int)).map fun p => (Str.ofString p.1, .int p.2)
  bt := ([("len", .len), ("min", .min), ("max", .max), ("sorted", .sorted), ("list", .list), ("str", .str), ("range", .range)] : List (String × Bt)).map fun p => (Str.ofString p.1, p.2)
  me := [(536, sa [("current", 393), ("after_command", 491)]), (837, sa [("by_number", 756), ("by_name", 763), ("create", 770), ("select", 792), ("set_current", 799)]), (733, sa [("goto", 702), ("size", 681), ("touch", 730)]),
    (627, sa [("size", 561), ("widen_gap", 589), ("move_gap", 582), ("insert", 596)]), (368, sa [("inserted", 351), ("numbers", 323)]), (893, sa [("size", 862), ("set_size", 869), ("shown", 883), ("show", 890)]),
    (964, sa [("fresh", 919), ("window", 926), ("leaf", 933), ("touch", 940), ("select", 947), ("least_leaf", 954)])]
  fi := [(536, ss ["buffers", "commands", "global_map", "local_maps", "minor_maps", "question_map", "questions", "asker", "kills", "registers", "abbrevs", "windows", "files", "machine", "rules", "further", "matches", "loop", "goals", "undoing", "marks", "amalgam", "message",
      "is_echo_old", "is_shifting", "signal_text", "panes", "modes", "fill_column", "tab_width", "rectangle", "last_expansion", "replacing"]),
    (837, ss ["rows", "order", "current", "last_number", "last_marker", "listeners"]),
    (733, ss ["number", "name", "text", "markers", "point", "begv", "zv", "mark", "is_live", "is_read_only", "ticks", "codes_ticks", "saved_ticks", "listeners", "undo", "props", "overlays", "locals", "syntax", "file"]),
    (627, ss ["room", "cells", "gap_start", "gap_end"]), (368, ss ["rows"]),
    (893, ss ["number", "sort", "parent", "children", "left", "top", "width", "height", "buffer", "start", "point", "hscroll", "is_dedicated", "use_time", "earlier", "later"]),
    (964, ss ["windows", "last", "clock", "least_width", "least_height", "root", "selected"]), (190, ss ["rows"]), (263, ss ["prompt", "rows", "has_default", "default", "parent"]), (38, ss ["sort", "many"])]
  cs := [(536, 386), (837, 749), (733, 646), (627, 554), (368, 316), (893, 855), (964, 912), (190, 159), (263, 225), (38, 35)]
end Mine
namespace Mine
variable {P : LamP}
noncomputable def btV : Bt → Value
  | .len => .builtin "len"
  | .min => .builtin "min"
  | .max => .builtin "max"
  | .sorted => .builtin "sorted"
  | .list => .type "list"
  | .str => .type "str"
  | .range => .type "range"
structure TabOk (K : Frag) (M : Mc) : Prop where
  gl : ∀ x v, M.T.gl.lookup x = some v → (∃ a, v = .glob a ∧ nsIn K mainGlobals x = some (some (.ref a)) ∧ keepIn K (.ref a) = true) ∨ ∃ i t, v = .int i ∧ nsIn K mainGlobals x = some (some (.int i t))
  bt : ∀ x b, M.T.bt.lookup x = some b → nsIn K mainGlobals x = some none ∧ bootBuiltins x = some (btV b) ∧ x ≠ "__name__"
  me : ∀ C l y fa, M.T.me.lookup C = some l → l.lookup y = some fa → methOk K C y fa = true
  fi : ∀ C l y, M.T.fi.lookup C = some l → l.contains y = true → fieldOk K C y = true
  cs : ∀ C fi, M.T.cs.lookup C = some fi → makesIn K C = true ∧ findIn K (.ref C) "__init__" = some (some (.ref fi)) ∧ isFn K (.ref fi) = true
  fn : ∀ fa f, M.fn fa = some f → fnK K fa = some f
section
variable {ω ω' : Wd}
theorem VI.none {x : Value} (h : VI P ω .none x) : x = .none := by obtain ⟨a, h1, h2⟩ := h; cases h1; exact h2
theorem VI.bool {b : Bool} {x : Value} (h : VI P ω (.bool b) x) : x = .bool b := by obtain ⟨a, h1, h2⟩ := h; cases h1; exact h2
theorem VI.int {i : Int} {x : Value} (h : VI P ω (.int i) x) : ∃ t, x = .int i t := by obtain ⟨a, h1, h2⟩ := h; cases h1; exact h2
theorem VI.str {i : Str} {x : Value} (h : VI P ω (.str i) x) : ∃ t, x = .str i t := by obtain ⟨a, h1, h2⟩ := h; cases h1; exact h2
theorem VI.loc {i : Nat} {x : Value} (h : VI P ω (.loc i) x) : ∃ a, ω.σ[i]? = some a ∧ x = .ref a := by obtain ⟨a, h1, h2⟩ := h; cases h1; exact ⟨_, by assumption, h2⟩
theorem VI.glob {i : Addr} {x : Value} (h : VI P ω (.glob i) x) : x = .ref i := by obtain ⟨a, h1, h2⟩ := h; cases h1; exact h2
theorem VI.tup {is : List Int} {x : Value} (h : VI P ω (.tup is) x) : ∃ a, (a, .tup (is.map .int)) ∈ ω.τ ∧ x = .ref a := by obtain ⟨a, h1, h2⟩ := h; cases h1; exact ⟨_, by assumption, h2⟩
theorem VI.rows {rs : List Rw} {x : Value} (h : VI P ω (.rows rs) x) : ∃ a xs, (a, .lst xs) ∈ ω.τ ∧ RRs ω.τ rs xs ∧ x = .ref a := by obtain ⟨a, h1, h2⟩ := h; cases h1; exact ⟨_, _, by assumption, by assumption, h2⟩
theorem VI.lam {x : Value} (h : VI P ω .lam x) : ∃ a o c oc, (a, .raw o) ∈ ω.τ ∧ (c, .raw oc) ∈ ω.τ ∧ P o c oc ∧ x = .ref a := by
  obtain ⟨a, h1, h2⟩ := h
  cases h1 with
  | lam p q r => exact ⟨_, _, _, _, p, q, r, h2⟩
theorem VI.of_none : VI P ω .none .none := ⟨_, .none, rfl⟩
theorem VI.of_bool {b : Bool} : VI P ω (.bool b) (.bool b) := ⟨_, .bool, rfl⟩
theorem VI.of_int {i : Int} {t : Tok} : VI P ω (.int i) (.int i t) := ⟨_, .int, _, rfl⟩
theorem VI.of_str {i : Str} {t : Tok} : VI P ω (.str i) (.str i t) := ⟨_, .str, _, rfl⟩
theorem VI.of_loc {i : Nat} {a : Addr} (h : ω.σ[i]? = some a) : VI P ω (.loc i) (.ref a) := ⟨_, .loc h, rfl⟩
theorem UR.all {v : U} {a : AV} {Q : Value → Prop} (h : UR P ω v a) (q : ∀ x, VI P ω v x → Q x) : a.All Q := fun x hx => q x ⟨a, h, hx⟩
theorem noneU {v : U} {x : Value} (h : VI P ω v x) : (x == .none) = isNoneU v := by
  obtain ⟨a, h1, h2⟩ := h
  cases h1 with
  | none => cases h2; rfl
  | bool => cases h2; rfl
  | int => obtain ⟨t, rfl⟩ := h2; rfl
  | str => obtain ⟨t, rfl⟩ := h2; rfl
  | loc => cases h2; rfl
  | glob => cases h2; rfl
  | tup => cases h2; rfl
  | rows => cases h2; rfl
  | nums => cases h2; rfl
  | lam => cases h2; rfl
theorem valU_is {v : Value} {u : U} (h : valU v = some u) : VI P ω u v := by
  cases v <;> simp only [valU, Option.some.injEq, reduceCtorEq] at h <;> subst h
  · exact .of_none
  · exact .of_bool
  · exact .of_int
  · exact .of_str
end
noncomputable def CR (ω : Wd) (a : List (Str × Nat)) (b : List (Str × Addr)) : Prop := ∀ x i, a.lookup x = some i → ∃ d, b.lookup x = some d ∧ ω.σ[i]? = some d
theorem CR.mono {ω ω' : Wd} {a : List (Str × Nat)} {b : List (Str × Addr)} (h : CR ω a b) (e : Ext ω ω') : CR ω' a b := fun x i q => let ⟨d, h1, h2⟩ := h x i q; ⟨d, h1, e.get h2⟩
structure FR (P : LamP) (K : Frag) (M : Mc) (c : Cx) (A : Around) (F : Fm) (env : Env) (L : Addr) (g : Heap) (own : List (Addr × AObj)) (ω : Wd) : Prop where
  fo : ∃ env₀ nm₀ cl₀, FO K c A env₀ nm₀ L cl₀ g F.d
  name : ∀ {x v ω' own' m s h pos} {Q : Value → Heap → Prop}, Ext ω ω' → (∀ p ∈ own, p ∈ own') → Rel P c g L own' ω' m s h → nameI M F s x = some v → (∀ y, VI P ω' v y → Q y h) → W c A (eval (.Name x pos) env) h Q
  blt : ∀ {x b ω' own' m s h pos} {Q : Value → Heap → Prop}, Rel P c g L own' ω' m s h → bltI M F x = some b → Q (btV b) h → W c A (eval (.Name x pos) env) h Q
  top : F.cv = none → ∃ cl, FO K c A env F.nm L cl g F.d ∧ CR ω F.cl cl
theorem FR.mono {K : Frag} {M : Mc} {c : Cx} {A : Around} {F : Fm} {env : Env} {L : Addr} {g : Heap} {own own' : List (Addr × AObj)} {ω ω' : Wd} (f : FR P K M c A F env L g own ω) (e : Ext ω ω') (ho : ∀ p ∈ own, p ∈ own') : FR P K M c A F env L g own' ω' :=
  ⟨f.fo, fun e' ho' R hn q => f.name (e.trans e') (fun p hp => ho' p (ho p hp)) R hn q, f.blt, fun hc => let ⟨cl, h1, h2⟩ := f.top hc; ⟨cl, h1, h2.mono e⟩⟩
theorem FR.ext {K : Frag} {M : Mc} {c : Cx} {A : Around} {F : Fm} {env : Env} {L : Addr} {g : Heap} {own : List (Addr × AObj)} {ω ω' : Wd} (f : FR P K M c A F env L g own ω) (e : Ext ω ω') : FR P K M c A F env L g own ω' := f.mono e fun _ h => h
theorem mem_lookup {β : Type} {l : List (Str × β)} {x : Str} {b : β} (e : l.lookup x = some b) : (x, b) ∈ l := by
  induction l with
  | nil => cases e
  | cons p l ih =>
    obtain ⟨y, b'⟩ := p
    rw [List.lookup_cons] at e
    split at e
    · rename_i q; cases e; have := eq_of_beq q; subst this; exact .head _
    · exact .tail _ (ih e)
theorem okNames_at {nm : List (Str × NameKind)} (h : okNames nm = true) {x : Str} {k : NameKind} (e : (x, k) ∈ nm) : (x == ("__debug__" : Str)) = false ∧ (x == ("__classdict__" : Str)) = false := by
  unfold okNames at h
  rw [List.all_eq_true] at h
  have := h _ e
  simp only [Bool.and_eq_true, bne, Bool.not_eq_true'] at this
  exact this
theorem FR.fn {K : Frag} {M : Mc} {c : Cx} {A : Around} {F : Fm} {env : Env} {L : Addr} {cl : List (Str × Addr)} {g : Heap} {own : List (Addr × AObj)} {ω : Wd} (T : TabOk K M) (f : FO K c A env F.nm L cl g F.d) (hc : CR ω F.cl cl) (hcv : F.cv = none) (hok : okNames F.nm = true) :
    FR P K M c A F env L g own ω := by
  refine ⟨⟨_, _, _, f⟩, ?_, ?_, fun _ => ⟨cl, f, hc⟩⟩
  · intro x v ω' own' m s h pos Q e ho R hn q
    unfold nameI at hn
    rw [hcv] at hn
    dsimp only at hn
    obtain ⟨ls, l, h1, h2, S⟩ := R.ex
    split at hn
    · rename_i hk
      have hk := mem_lookup hk
      cases e1 : s.ls.lookup x with
      | none => rw [e1] at hn; cases hn
      | some o =>
        rw [e1] at hn
        cases o with
        | none => cases hn
        | some v' =>
          cases hn
          obtain ⟨av, h3, h4⟩ := h1.mem e1
          exact n_loc f S hk h3 (h4.all fun y hy => q y hy) (okNames_at hok hk).1
    all_goals first
      | (rename_i hk
         have hk := mem_lookup hk
         split at hn
         · rename_i i hi
           split at hn
           · rename_i u hu
             cases hn
             obtain ⟨d, h3, h4⟩ := (hc.mono e) x i hi
             obtain ⟨a, y, h5, h6, h7⟩ := h2.at hu
             rw [h4] at h5
             cases h5
             cases h7 with
             | cell1 h8 =>
               first
                 | exact n_cell f S hk (mem_lookup h3) (List.mem_append_left _ h6) (h8.all fun y hy => q y hy) (okNames_at hok hk).1
                 | exact n_free f S hk (mem_lookup h3) (List.mem_append_left _ h6) (h8.all fun y hy => q y hy) (okNames_at hok hk).1 (okNames_at hok hk).2
           · cases hn
         · cases hn)
      | (rename_i hk
         have hk := mem_lookup hk
         rcases T.gl x v hn with ⟨a, rfl, h3, _⟩ | ⟨i, t, rfl, h3⟩
         · exact n_glob f S hk h3 (q _ ⟨_, .glob, rfl⟩) (okNames_at hok hk).1
         · exact n_glob f S hk h3 (q _ .of_int) (okNames_at hok hk).1)
      | cases hn
  · intro x b ω' own' m s h pos Q R hn q
    unfold bltI at hn
    obtain ⟨ls, l, h1, h2, S⟩ := R.ex
    split at hn
    · rename_i hk
      have hk := mem_lookup hk
      obtain ⟨h3, h4, h5⟩ := T.bt x b hn
      exact n_blt f S hk h3 h4 q h5 (okNames_at hok hk).1
    · cases hn
noncomputable def Post (P : LamP) (c : Cx) (g : Heap) (L : Addr) (own : List (Addr × AObj)) (ω : Wd) (m : Str → Option Value) (k : U → St → Prop) (x : Value) (h' : Heap) : Prop :=
  ∃ ω' v s', Ext ω ω' ∧ Rel P c g L own ω' m s' h' ∧ VI P ω' v x ∧ k v s'
noncomputable def PostL (P : LamP) (c : Cx) (g : Heap) (L : Addr) (own : List (Addr × AObj)) (ω : Wd) (m : Str → Option Value) (k : List U → St → Prop) (x : List Value) (h' : Heap) : Prop :=
  ∃ ω' v s', Ext ω ω' ∧ Rel P c g L own ω' m s' h' ∧ VIs P ω' v x ∧ k v s'
noncomputable def PostB (P : LamP) (c : Cx) (g : Heap) (L : Addr) (own : List (Addr × AObj)) (ω : Wd) (m : Str → Option Value) (k : Bool → St → Prop) (x : Bool) (h' : Heap) : Prop :=
  ∃ ω' s', Ext ω ω' ∧ Rel P c g L own ω' m s' h' ∧ k x s'
noncomputable def PostA (P : LamP) (c : Cx) (g : Heap) (L : Addr) (own : List (Addr × AObj)) (ω : Wd) (k : St → Prop) (h' : Heap) : Prop :=
  ∃ ω' m' s', Ext ω ω' ∧ Rel P c g L own ω' m' s' h' ∧ k s'
noncomputable def FlR (P : LamP) (ω : Wd) : Flow → Fl → Prop
  | .next, .next => True
  | .ret x, .ret u => VI P ω u x
  | _, _ => False
noncomputable def PostF (P : LamP) (c : Cx) (g : Heap) (L : Addr) (own : List (Addr × AObj)) (ω : Wd) (k : Fl → St → Prop) (fl : Flow) (h' : Heap) : Prop :=
  ∃ ω' m' s' f, Ext ω ω' ∧ Rel P c g L own ω' m' s' h' ∧ FlR P ω' fl f ∧ k f s'
theorem Post.use {G : Prop} {c : Cx} {g : Heap} {L : Addr} {own : List (Addr × AObj)} {ω : Wd} {m : Str → Option Value} {k : U → St → Prop} {x : Value} {h' : Heap} (p : Post P c g L own ω m k x h') (q : ∀ ω' v s', Ext ω ω' → Rel P c g L own ω' m s' h' → VI P ω' v x → k v s' → G) : G := p.elim fun ω' r => r.elim fun v r => r.elim fun s' r => q ω' v s' r.1 r.2.1 r.2.2.1 r.2.2.2
theorem PostL.use {G : Prop} {c : Cx} {g : Heap} {L : Addr} {own : List (Addr × AObj)} {ω : Wd} {m : Str → Option Value} {k : List U → St → Prop} {x : List Value} {h' : Heap} (p : PostL P c g L own ω m k x h') (q : ∀ ω' v s', Ext ω ω' → Rel P c g L own ω' m s' h' → VIs P ω' v x → k v s' → G) : G := p.elim fun ω' r => r.elim fun v r => r.elim fun s' r => q ω' v s' r.1 r.2.1 r.2.2.1 r.2.2.2
theorem PostB.use {G : Prop} {c : Cx} {g : Heap} {L : Addr} {own : List (Addr × AObj)} {ω : Wd} {m : Str → Option Value} {k : Bool → St → Prop} {x : Bool} {h' : Heap} (p : PostB P c g L own ω m k x h') (q : ∀ ω' s', Ext ω ω' → Rel P c g L own ω' m s' h' → k x s' → G) : G := p.elim fun ω' r => r.elim fun s' r => q ω' s' r.1 r.2.1 r.2.2
theorem PostA.use {G : Prop} {c : Cx} {g : Heap} {L : Addr} {own : List (Addr × AObj)} {ω : Wd} {k : St → Prop} {h' : Heap} (p : PostA P c g L own ω k h') (q : ∀ ω' m' s', Ext ω ω' → Rel P c g L own ω' m' s' h' → k s' → G) : G := p.elim fun ω' r => r.elim fun m' r => r.elim fun s' r => q ω' m' s' r.1 r.2.1 r.2.2
theorem PostF.use {G : Prop} {c : Cx} {g : Heap} {L : Addr} {own : List (Addr × AObj)} {ω : Wd} {k : Fl → St → Prop} {fl : Flow} {h' : Heap} (p : PostF P c g L own ω k fl h') (q : ∀ ω' m' s' f, Ext ω ω' → Rel P c g L own ω' m' s' h' → FlR P ω' fl f → k f s' → G) : G := p.elim fun ω' r => r.elim fun m' r => r.elim fun s' r => r.elim fun f r => q ω' m' s' f r.1 r.2.1 r.2.2.1 r.2.2.2
theorem Post.ext {c : Cx} {g : Heap} {L : Addr} {own : List (Addr × AObj)} {ω ω' : Wd} {m : Str → Option Value} {k : U → St → Prop} {x : Value} {h' : Heap} (p : Post P c g L own ω' m k x h') (e : Ext ω ω') : Post P c g L own ω m k x h' := let ⟨ω₂, v, s, h1, h2⟩ := p; ⟨ω₂, v, s, e.trans h1, h2⟩
theorem PostB.ext {c : Cx} {g : Heap} {L : Addr} {own : List (Addr × AObj)} {ω ω' : Wd} {m : Str → Option Value} {k : Bool → St → Prop} {x : Bool} {h' : Heap} (p : PostB P c g L own ω' m k x h') (e : Ext ω ω') : PostB P c g L own ω m k x h' := let ⟨ω₂, s, h1, h2⟩ := p; ⟨ω₂, s, e.trans h1, h2⟩
theorem PostA.ext {c : Cx} {g : Heap} {L : Addr} {own : List (Addr × AObj)} {ω ω' : Wd} {k : St → Prop} {h' : Heap} (p : PostA P c g L own ω' k h') (e : Ext ω ω') : PostA P c g L own ω k h' := let ⟨ω₂, m, s, h1, h2⟩ := p; ⟨ω₂, m, s, e.trans h1, h2⟩
theorem PostF.ext {c : Cx} {g : Heap} {L : Addr} {own : List (Addr × AObj)} {ω ω' : Wd} {k : Fl → St → Prop} {x : Flow} {h' : Heap} (p : PostF P c g L own ω' k x h') (e : Ext ω ω') : PostF P c g L own ω k x h' := let ⟨ω₂, m, s, f, h1, h2⟩ := p; ⟨ω₂, m, s, f, e.trans h1, h2⟩
structure Sound (P : LamP) (K : Frag) (M : Mc) (c : Cx) (I : In) : Prop where
  ev : ∀ {F s e k}, I.ev F s e k → ∀ {A env L g own ω m h}, FR P K M c A F env L g own ω → Rel P c g L own ω m s h → W c A (eval e env) h (Post P c g L own ω m k)
  te : ∀ {F s e k}, I.te F s e k → ∀ {A env L g own ω m h}, FR P K M c A F env L g own ω → Rel P c g L own ω m s h → ∀ whole, ((∀ op l p, e ≠ .BoolOp op l p) → whole = eval e env) → W c A (isTrue e env whole) h (PostB P c g L own ω m k)
  sp : ∀ {F s es k}, I.sp F s es k → noStar es = true → ∀ {A env L g own ω m h}, FR P K M c A F env L g own ω → Rel P c g L own ω m s h → ∀ pos, W c A (spliced (backTo pos (starEach es env))) h (PostL P c g L own ω m k)
  sp0 : ∀ {F s k}, I.sp F s [] k → k [] s
  ca : ∀ {d s fa us k}, I.ca d s fa us k → ∀ {A env nm L cl g own ω m h vs}, FO K c A env nm L cl g d → Rel P c g L own ω m s h → VIs P ω us vs → W c A (call (.ref fa) vs) h (Post P c g L own ω m k)
  as : ∀ {F s t v k}, I.as F s t v k → ∀ {A env L g own ω m h x}, F.cv = none → FR P K M c A F env L g own ω → Rel P c g L own ω m s h → VI P ω v x → W c A (assign t env x) h (fun _ => PostA P c g L own ω k)
  ex : ∀ {F s st k}, I.ex F s st k → ∀ {A env L g own ω m h}, F.cv = none → FR P K M c A F env L g own ω → Rel P c g L own ω m s h → W c A (exec st env) h (PostF P c g L own ω k)
  xs : ∀ {F s l k}, I.xs F s l k → ∀ {A env L g own ω m h}, F.cv = none → FR P K M c A F env L g own ω → Rel P c g L own ω m s h → W c A (execs l env) h (PostF P c g L own ω k)
theorem bindO_is {α : Type} {o : Option α} {f : α → Prop} (h : bindO o f) : ∃ a, o = some a ∧ f a := by
  unfold bindO at h
  split at h
  · exact ⟨_, rfl, h⟩
  · exact h.elim
theorem bindO_use {α : Type} {o : Option α} {f : α → Prop} {G : Prop} (h : bindO o f) (q : ∀ a, o = some a → f a → G) : G := (bindO_is h).elim fun a r => q a r.1 r.2
theorem br_is {b : Bool} {p q : Prop} (h : br b p q) : if b = true then p else q := by cases b <;> exact h
end Mine
namespace Mine
variable {P : LamP}
section
variable {K : Frag} {M : Mc} {c : Cx} {A : Around} {env : Env} {nm : List (Str × NameKind)} {L : Addr} {cl : List (Str × Addr)} {g h : Heap} {n : Nat} {m : Str → Option Value} {own : List (Addr × AObj)} {ω : Wd} {s : St}
theorem fieldI_ok {v u : U} {x : Value} {y : Str} {b : Bool} {Q : Value → Heap → Prop} (T : TabOk K M) (X : K.In g) (R : Rel P c g L own ω m s h) (hv : VI P ω v x) (e : fieldI M s v y = some u) (q : ∀ z, VI P ω u z → Q z h) : W c A (getAttr x y b) h Q := by
  unfold fieldI at e
  split at e
  · rename_i i
    split at e
    · rename_i C dx hi
      split at e
      · rename_i hf
        split at e
        · rename_i fs hd
          obtain ⟨a, ha, rfl⟩ := hv.loc
          refine (R).use fun ls l h1 h2 S => ?_
          obtain ⟨a1, x1, p1, p2, p3⟩ := h2.at hi
          obtain ⟨a2, x2, q1, q2, q3⟩ := h2.at hd
          rw [ha] at p1; cases p1
          cases p3 with
          | inst p4 =>
          rw [q1] at p4; cases p4
          cases q3 with
          | attrs q4 =>
          obtain ⟨av, r1, r2⟩ := q4.mem e
          cases hl : M.T.fi.lookup C with
          | none => rw [hl] at hf; cases hf
          | some fl =>
            rw [hl] at hf
            exact g_attr X S (List.mem_append_left _ p2) (List.mem_append_left _ q2) r1 (T.fi C fl y hl hf) (r2.all q)
        · cases e
      · cases e
    · cases e
  · cases e
theorem small_get {j : Int} (h : small j = true) : 0 ≤ j ∧ j < 1000000 := by
  unfold small at h
  simpa only [Bool.and_eq_true, decide_eq_true_eq] using h
theorem fits_get {n : Nat} (h : fits n = true) : n ≤ 100000 := Nat.le_of_ble_eq_true h
theorem itemI_ok {e' s' : Expr} {v u w : U} {x y : Value} {Q : Value → Heap → Prop} (R : Rel P c g L own ω m s h) (hv : VI P ω v x) (hw : VI P ω w y) (e : itemI s v w = some u) (q : ∀ z, VI P ω u z → Q z h) :
    W c A (subscriptTail e' s' x y) h Q := by
  unfold itemI at e
  split at e
  · rename_i i j
    obtain ⟨a, ha, rfl⟩ := hv.loc
    obtain ⟨t, rfl⟩ := hw.int
    refine (R).use fun ls l h1 h2 S => ?_
    split at e
    · rename_i vs hi
      obtain ⟨a1, x1, p1, p2, p3⟩ := h2.at hi
      rw [ha] at p1; cases p1
      cases p3 with
      | lst p4 =>
      split at e
      · rename_i hs
        have hs := small_get hs
        obtain ⟨av, r1, r2⟩ := p4.get e
        exact gi_lst S (List.mem_append_left _ p2) hs.1 (by omega) r1 (r2.all q)
      · cases e
    · rename_i kvs hi
      obtain ⟨a1, x1, p1, p2, p3⟩ := h2.at hi
      rw [ha] at p1; cases p1
      cases p3 with
      | idict p4 =>
      obtain ⟨av, r1, r2⟩ := p4.at e
      exact gi_dict S (List.mem_append_left _ p2) r1 (r2.all q)
    · cases e
  · rename_i is j
    obtain ⟨a, ha, rfl⟩ := hv.tup
    obtain ⟨t, rfl⟩ := hw.int
    obtain ⟨ls, l, S, hτ⟩ := R.imm
    split at e
    · rename_i hs
      have hs := small_get hs
      split at e
      · rename_i i hi
        cases e
        have hlt := (List.getElem?_eq_some_iff.mp hi).1
        exact gi_tup S (hτ _ ha) (by omega) (by omega) (k := j.toNat) (by
            unfold seqIndex?
            simp only [List.length_map, if_neg (show ¬ j < 0 by omega)]
            rw [if_pos (by simp only [Bool.and_eq_true, decide_eq_true_eq]; omega)]) (by rw [List.getElem?_map, hi]; rfl) (AV.all_int fun t => q _ .of_int)
      · cases e
    · cases e
  · rename_i rs j
    obtain ⟨a, xs, ha, hr, rfl⟩ := hv.rows
    obtain ⟨t, rfl⟩ := hw.int
    obtain ⟨ls, l, S, hτ⟩ := R.imm
    split at e
    · rename_i hs
      have hs := small_get hs
      split at e
      · rename_i r hr'
        cases e
        obtain ⟨b, r1, r2⟩ := hr.get hr'
        exact gi_lst S (hτ _ ha) hs.1 (by omega) r1 (AV.all_ref (q _ ⟨_, .tup r2, rfl⟩))
      · cases e
    · split at e
      · rename_i hj
        have hj := eq_of_beq hj
        subst hj
        split at e
        · rename_i r hr'
          cases e
          rw [List.getLast?_eq_getElem?] at hr'
          obtain ⟨b, r1, r2⟩ := hr.get hr'
          exact gi_last S (hτ _ ha) (by rw [List.getLast?_eq_getElem?, ← hr.len]; exact r1) (AV.all_ref (q _ ⟨_, .tup r2, rfl⟩))
        · cases e
      · cases e
  · cases e
end
end Mine
namespace Mine
variable {P : LamP}
section
variable {K : Frag} {M : Mc} {c : Cx} {A : Around} {env : Env} {nm : List (Str × NameKind)} {L : Addr} {cl : List (Str × Addr)} {g h : Heap} {n : Nat} {m : Str → Option Value} {own : List (Addr × AObj)} {ω : Wd} {s : St}
theorem rds_ints {l : List (Addr × AObj)} : ∀ (is : List Int), RDs l (is.map .int) (is.map .int)
  | [] => .nil
  | _ :: is => .int (rds_ints is)
theorem rds_rows {l τ : List (Addr × AObj)} (hτ : ∀ p ∈ τ, p ∈ l) {rs : List Rw} {xs : List AV} (h : RRs τ rs xs) : RDs l xs (rs.map fun r => .tuple (r.is.map .int)) := by
  induction h with
  | nil => exact .nil
  | cons q _ ih => exact .tup (hτ _ q) (rds_ints _) ih
theorem lay_ints : ∀ (is : List Int), PyData.canLayAll0 (is.map .int) = true ∧ PyData.depthAll (is.map .int) = 0
  | [] => ⟨rfl, rfl⟩
  | i :: is => by
    obtain ⟨h1, h2⟩ := lay_ints is
    constructor
    · show (true && PyData.canLayAll0 (is.map .int)) = true; rw [h1]; rfl
    · show max 0 (PyData.depthAll (is.map .int)) = 0; rw [h2]; rfl
theorem lay_rows : ∀ (rs : List Rw), PyData.canLayAll0 (rs.map fun r => .tuple (r.is.map .int)) = true ∧ PyData.depthAll (rs.map fun r => .tuple (r.is.map .int)) ≤ 1
  | [] => ⟨rfl, Nat.zero_le _⟩
  | r :: rs => by
    obtain ⟨h1, h2⟩ := lay_rows rs
    obtain ⟨h3, h4⟩ := lay_ints r.is
    constructor
    · show (PyData.canLayAll0 (r.is.map .int) && PyData.canLayAll0 (rs.map fun r => .tuple (r.is.map .int))) = true; rw [h1, h3]; rfl
    · show max (PyData.depthAll (r.is.map .int) + 1) (PyData.depthAll (rs.map fun r => .tuple (r.is.map .int))) ≤ 1; rw [h4]; omega
theorem datI_ok {l : List (Addr × AObj)} {lz : List (Addr × AObj)} (hz : ZR P ω ω.σ s.os lz) (hl : ∀ p ∈ lz, p ∈ l) (hτ : ∀ p ∈ ω.τ, p ∈ l) : ∀ (n : Nat) {u : U} {x : AV} {d : PyData}, UR P ω u x → datI s n u = some d →
    (∀ xs ds, RDs l xs ds → RDs l (x :: xs) (d :: ds)) ∧ d.canLay0 = true ∧ d.depth ≤ n + 2 := by
  intro n
  induction n with
  | zero =>
    intro u x d hu e
    cases hu <;> simp only [datI, Option.some.injEq, reduceCtorEq] at e <;> subst e
    · exact ⟨fun _ _ r => .none r, rfl, Nat.zero_le _⟩
    · exact ⟨fun _ _ r => .bool r, rfl, Nat.zero_le _⟩
    · exact ⟨fun _ _ r => .int r, rfl, Nat.zero_le _⟩
    · rename_i is a hm
      obtain ⟨h1, h2⟩ := lay_ints is
      exact ⟨fun _ _ r => .tup (hτ _ hm) (rds_ints _) r, h1, by show PyData.depthAll (is.map .int) + 1 ≤ _; rw [h2]; omega⟩
    · rename_i rs a xs hm hr
      obtain ⟨h1, h2⟩ := lay_rows rs
      exact ⟨fun _ _ r => .lst (hτ _ hm) (rds_rows hτ hr) r, h1, by show PyData.depthAll _ + 1 ≤ _; omega⟩
  | succ n ih =>
    intro u x d hu e
    cases hu
    case loc i a ha =>
      unfold datI at e
      split at e
      · rename_i vs hi
        split at e
        · rename_i ds hds
          cases e
          obtain ⟨a1, x1, p1, p2, p3⟩ := hz.at hi
          rw [ha] at p1; cases p1
          cases p3 with
          | lst p4 =>
          rename_i ws
          have key : ∀ {vs : List U} {ws : List AV} {ds : List PyData}, URs P ω vs ws → vs.mapM (datI s n) = some ds → RDs l ws ds ∧ PyData.canLayAll0 ds = true ∧ PyData.depthAll ds ≤ n + 2 := by
            intro vs ws ds hv
            induction hv generalizing ds with
            | nil => intro e; simp at e; subst e; exact ⟨.nil, rfl, Nat.zero_le _⟩
            | @cons v w vs ws q hr ih' =>
              intro e
              rw [List.mapM_cons] at e
              cases e1 : datI s n v with
              | none => rw [e1] at e; cases e
              | some d1 =>
                rw [e1] at e
                cases e2 : vs.mapM (datI s n) with
                | none => rw [e2] at e; cases e
                | some d2 =>
                  rw [e2] at e
                  cases e
                  obtain ⟨q1, q2, q3⟩ := ih q e1
                  obtain ⟨r1, r2, r3⟩ := ih' e2
                  refine ⟨q1 _ _ r1, ?_, ?_⟩
                  · show (d1.canLay0 && PyData.canLayAll0 d2) = true; rw [q2, r2]; rfl
                  · show max d1.depth (PyData.depthAll d2) ≤ _; omega
          obtain ⟨r1, r2, r3⟩ := key p4 hds
          exact ⟨fun _ _ r => .lst (hl _ p2) r1 r, r2, by show PyData.depthAll ds + 1 ≤ _; omega⟩
        · cases e
      · cases e
    all_goals simp only [datI, Option.some.injEq, reduceCtorEq] at e <;> subst e
    · exact ⟨fun _ _ r => .none r, rfl, Nat.zero_le _⟩
    · exact ⟨fun _ _ r => .bool r, rfl, Nat.zero_le _⟩
    · exact ⟨fun _ _ r => .int r, rfl, Nat.zero_le _⟩
    · rename_i is a hm
      obtain ⟨h1, h2⟩ := lay_ints is
      exact ⟨fun _ _ r => .tup (hτ _ hm) (rds_ints _) r, h1, by show PyData.depthAll (is.map .int) + 1 ≤ _; rw [h2]; omega⟩
    · rename_i rs a xs hm hr
      obtain ⟨h1, h2⟩ := lay_rows rs
      exact ⟨fun _ _ r => .lst (hτ _ hm) (rds_rows hτ hr) r, h1, by show PyData.depthAll _ + 1 ≤ _; omega⟩
theorem datP {u : U} {x : Value} {d : PyData} (R : Rel P c g L own ω m s h) {ls : List (Str × Option AV)} {l : List (Addr × AObj)} (hz : ZR P ω ω.σ s.os l) (hv : VI P ω u x) (e : datI s 2 u = some d) :
    ∃ av, av.is x ∧ RDs (l ++ (ω.τ ++ own)) [av] [d] ∧ PySem.SeqAt.shaped d = true := by
  obtain ⟨av, h1, h2⟩ := hv
  obtain ⟨q1, q2, q3⟩ := datI_ok (l := l ++ (ω.τ ++ own)) hz (fun p hp => List.mem_append_left _ hp) (fun p hp => List.mem_append_right _ (List.mem_append_left _ hp)) 2 h1 e
  refine ⟨av, h2, q1 _ _ .nil, ?_⟩
  unfold PySem.SeqAt.shaped
  rw [q2, decide_eq_true (by omega)]; rfl
theorem no_some {α : Type} {x : α} (h : (none : Option α) = some x) : False := nomatch h
theorem cmp_split {s : St} {r : Bool} {G : CmpOp → U → U → Prop}
    (h1 : ∀ i j, some (decide (i < j)) = some r → G .Lt (.int i) (.int j))
    (h2 : ∀ i j, some (decide (i ≤ j)) = some r → G .LtE (.int i) (.int j))
    (h3 : ∀ i j, some (decide (j < i)) = some r → G .Gt (.int i) (.int j))
    (h4 : ∀ i j, some (decide (j ≤ i)) = some r → G .GtE (.int i) (.int j))
    (h5 : ∀ i j, some (i == j) = some r → G .Eq (.int i) (.int j))
    (h6 : ∀ i j, some (i != j) = some r → G .NotEq (.int i) (.int j))
    (h7 : ∀ x y : Str, some (x.cps.toList == y.cps.toList) = some r → G .Eq (.str x) (.str y))
    (h8 : ∀ a, some (isNoneU a) = some r → G .Is a .none)
    (h9 : ∀ a, some (!isNoneU a) = some r → G .IsNot a .none)
    (h10 : ∀ i is, some (!(is.any (· == i))) = some r → G .NotIn (.int i) (.tup is))
    (h11 : ∀ a b, (match datI s 2 a, datI s 2 b with
      | some d, some e => some (PyData.eqv d e)
      | _, _ => none) = some r → G .Eq a b)
    (h12 : ∀ a b, (match datI s 2 a, datI s 2 b with
      | some d, some e => some (!PyData.eqv d e)
      | _, _ => none) = some r → G .NotEq a b) : ∀ op a b, cmpI s op a b = some r → G op a b := by
  intro op a b e
  cases op <;> first | exact (no_some e).elim | skip
  case Eq => cases a <;> first | exact h11 _ _ e | (cases b <;> first | exact h5 _ _ e | exact h7 _ _ e | exact h11 _ _ e)
  case NotEq => cases a <;> first | exact h12 _ _ e | (cases b <;> first | exact h6 _ _ e | exact h12 _ _ e)
  case Is => cases b <;> first | exact (no_some e).elim | exact h8 _ e
  case IsNot => cases b <;> first | exact (no_some e).elim | exact h9 _ e
  all_goals (cases a <;> first | exact (no_some e).elim | skip)
  all_goals (cases b <;> first | exact (no_some e).elim | exact h1 _ _ e | exact h2 _ _ e | exact h3 _ _ e | exact h4 _ _ e | exact h10 _ _ e)
theorem cmpI_ok {op : CmpOp} {a b : U} {r : Bool} {x y : Value} {Q : Value → Heap → Prop} (f : FO K c A env nm L cl g n) (R : Rel P c g L own ω m s h) (ha : VI P ω a x) (hb : VI P ω b y) (e : cmpI s op a b = some r) (q : Q (.bool r) h) :
    W c A (compareOp op x y) h Q := by
  revert ha hb e
  refine fun ha hb e => cmp_split (s := s) (r := r) (G := fun op a b => VI P ω a x → VI P ω b y → W c A (compareOp op x y) h Q) ?_ ?_ ?_ ?_ ?_ ?_ ?_ ?_ ?_ ?_ ?_ ?_ op a b e ha hb
  · intro i j e ha hb
    cases e; obtain ⟨t, rfl⟩ := ha.int; obtain ⟨u, rfl⟩ := hb.int; exact c_lt q
  · intro i j e ha hb
    cases e; obtain ⟨t, rfl⟩ := ha.int; obtain ⟨u, rfl⟩ := hb.int; exact c_le q
  · intro i j e ha hb
    cases e; obtain ⟨t, rfl⟩ := ha.int; obtain ⟨u, rfl⟩ := hb.int; exact c_gt q
  · intro i j e ha hb
    cases e; obtain ⟨t, rfl⟩ := ha.int; obtain ⟨u, rfl⟩ := hb.int; exact c_ge q
  · intro i j e ha hb
    cases e; obtain ⟨t, rfl⟩ := ha.int; obtain ⟨u, rfl⟩ := hb.int; exact c_eq q
  · intro i j e ha hb
    cases e; obtain ⟨t, rfl⟩ := ha.int; obtain ⟨u, rfl⟩ := hb.int; exact c_ne q
  · intro x' y' e ha hb
    cases e; obtain ⟨t, rfl⟩ := ha.str; obtain ⟨u, rfl⟩ := hb.str; exact c_eqs q
  · intro a e ha hb
    cases e; have := hb.none; subst this; exact c_is (by rw [noneU ha]; exact q)
  · intro a e ha hb
    cases e; have := hb.none; subst this; exact c_isnot (by rw [noneU ha]; exact q)
  · intro i is e ha hb
    cases e
    obtain ⟨t, rfl⟩ := ha.int
    obtain ⟨d, hd, rfl⟩ := hb.tup
    obtain ⟨ls, l, S, hτ⟩ := R.imm
    intro tk
    obtain ⟨ws, h2, h3⟩ := S.tup (hτ _ hd)
    refine notin_tuple_ints (s := ⟨h, c.g, c.d, tk, c.o⟩) (ns := is) h2 ?_ ⟨_, _, rfl, q⟩
    have key : ∀ {is : List Int} {ws : List Value}, AVs (is.map .int) ws → IntsAre ws is := by
      intro is
      induction is with
      | nil => intro ws h; cases h; exact .nil
      | cons i is ih =>
        intro ws h
        cases h with
        | cons hx hr => obtain ⟨t, rfl⟩ := hx; exact .cons i t (ih hr)
    exact key h3
  · intro a b e ha hb
    split at e
    · rename_i d d' h1 h2
      cases e
      refine (R).use fun ls l _ hz S => ?_
      obtain ⟨a', a1, a2, a3⟩ := datP (own := own) R (ls := ls) hz ha h1
      obtain ⟨b', b1, b2, b3⟩ := datP (own := own) R (ls := ls) hz hb h2
      exact c_eqD f S a1 b1 a2 b2 a3 b3 q
    · cases e
  · intro a b e ha hb
    split at e
    · rename_i d d' h1 h2
      cases e
      refine (R).use fun ls l _ hz S => ?_
      obtain ⟨a', a1, a2, a3⟩ := datP (own := own) R (ls := ls) hz ha h1
      obtain ⟨b', b1, b2, b3⟩ := datP (own := own) R (ls := ls) hz hb h2
      exact c_neD f S a1 b1 a2 b2 a3 b3 q
    · cases e
end
end Mine
namespace Mine
variable {P : LamP}
section
variable {K : Frag} {M : Mc} {c : Cx} {A : Around} {env : Env} {nm : List (Str × NameKind)} {L : Addr} {cl : List (Str × Addr)} {g h h' : Heap} {n : Nat} {m : Str → Option Value} {own : List (Addr × AObj)} {ω : Wd} {s : St} {k : U → St → Prop}
theorem post_same {v : U} {x : Value} (R : Rel P c g L own ω m s h) (hv : VI P ω v x) (q : k v s) : Post P c g L own ω m k x h := ⟨ω, v, s, .refl, R, hv, q⟩
theorem rel_new {ls : List (Str × Option AV)} {l : List (Addr × AObj)} {o : B} {x : AObj} {d : Addr} (h1 : LRs P ω s.ls ls) (h2 : ZR P ω ω.σ s.os l) (b : BR P ω o x) (S : ST c g L m ls h' ((d, x) :: (l ++ (ω.τ ++ own)))) :
    Rel P c g L own ⟨ω.σ ++ [d], ω.τ⟩ m (s.new o) h' := by
  have e : Ext ω ⟨ω.σ ++ [d], ω.τ⟩ := Ext.alloc
  refine ⟨ls, l ++ [(d, x)], h1.mono e, (h2.mono e).snoc (b.mono e), ⟨S.lo, S.ld.perm ?_⟩⟩
  show (l ++ [(d, x)] ++ (ω.τ ++ own)).Perm _
  rw [List.append_assoc, List.singleton_append]
  exact List.perm_middle
theorem at_new {os : List B} {l : List (Addr × AObj)} {d : Addr} (h2 : ZR P ω ω.σ os l) : (ω.σ ++ [d])[os.length]? = some d := by rw [← h2.len]; simp
theorem post_new {ls : List (Str × Option AV)} {l : List (Addr × AObj)} {o : B} {x : AObj} {d : Addr} (h1 : LRs P ω s.ls ls) (h2 : ZR P ω ω.σ s.os l) (b : BR P ω o x) (S : ST c g L m ls h' ((d, x) :: (l ++ (ω.τ ++ own)))) (q : k (.loc s.os.length) (s.new o)) :
    Post P c g L own ω m k (.ref d) h' := ⟨_, _, _, Ext.alloc, rel_new h1 h2 b S, .of_loc (at_new h2), q⟩
theorem rel_imm {ls : List (Str × Option AV)} {l : List (Addr × AObj)} {x : AObj} {d : Addr} (h1 : LRs P ω s.ls ls) (h2 : ZR P ω ω.σ s.os l) (S : ST c g L m ls h' ((d, x) :: (l ++ (ω.τ ++ own)))) :
    Rel P c g L own ⟨ω.σ, (d, x) :: ω.τ⟩ m s h' := by
  have e : Ext ω ⟨ω.σ, (d, x) :: ω.τ⟩ := Ext.keep
  refine ⟨ls, l, h1.mono e, h2.mono e, ⟨S.lo, S.ld.perm ?_⟩⟩
  exact List.perm_middle
theorem post_rows {ls : List (Str × Option AV)} {l : List (Addr × AObj)} {rs : List Rw} {xs : List AV} {d : Addr} (h1 : LRs P ω s.ls ls) (h2 : ZR P ω ω.σ s.os l) (hr : RRs ω.τ rs xs) (S : ST c g L m ls h' ((d, .lst xs) :: (l ++ (ω.τ ++ own)))) (q : k (.rows rs) s) :
    Post P c g L own ω m k (.ref d) h' := ⟨_, _, _, Ext.keep, rel_imm h1 h2 S, ⟨_, .rows (.head _) (hr.mono fun _ hp => .tail _ hp), rfl⟩, q⟩
theorem post_tup {ls : List (Str × Option AV)} {l : List (Addr × AObj)} {is : List Int} {d : Addr} (h1 : LRs P ω s.ls ls) (h2 : ZR P ω ω.σ s.os l) (S : ST c g L m ls h' ((d, .tup (is.map .int)) :: (l ++ (ω.τ ++ own)))) (q : k (.tup is) s) :
    Post P c g L own ω m k (.ref d) h' := ⟨_, _, _, Ext.keep, rel_imm h1 h2 S, ⟨_, .tup (.head _), rfl⟩, q⟩
theorem rowU_is {u : U} {x : AV} {r : Rw} (h : UR P ω u x) (e : rowU u = some r) : ∃ a, x = .ref a ∧ (a, .tup (r.is.map .int)) ∈ ω.τ := by
  unfold rowU at e
  split at e
  · cases e
    cases h with
    | tup q => exact ⟨_, rfl, q⟩
  · cases e
theorem rowsU_is {l : List (Addr × AObj)} {u : U} {x : Value} {rs : List Rw} (h2 : ZR P ω ω.σ s.os l) (hv : VI P ω u x) (e : rowsU s u = some rs) : ∃ a xs, x = .ref a ∧ (a, .lst xs) ∈ l ++ (ω.τ ++ own) ∧ RRs ω.τ rs xs := by
  unfold rowsU at e
  split at e
  · cases e
    obtain ⟨a, xs, h3, h4, rfl⟩ := hv.rows
    exact ⟨a, xs, rfl, List.mem_append_right _ (List.mem_append_left _ h3), h4⟩
  · split at e
    · rename_i i vs hi
      obtain ⟨a, ha, rfl⟩ := hv.loc
      obtain ⟨a1, x1, p1, p2, p3⟩ := h2.at hi
      rw [ha] at p1; cases p1
      cases p3 with
      | lst p4 =>
      refine ⟨a, _, rfl, List.mem_append_left _ p2, ?_⟩
      clear p2 hi hv
      induction p4 generalizing rs with
      | nil => simp at e; subst e; exact .nil
      | @cons v w vs ws q hr ih =>
        rw [List.mapM_cons] at e
        cases e1 : rowU v with
        | none => rw [e1] at e; cases e
        | some r =>
          rw [e1] at e
          cases e2 : vs.mapM rowU with
          | none => rw [e2] at e; cases e
          | some r2 =>
            rw [e2] at e
            cases e
            obtain ⟨b, rfl, q2⟩ := rowU_is q e1
            exact .cons q2 (ih e2)
    · cases e
  · cases e
theorem Str.len_cps (x : Str) : x.length = x.cps.size := rfl
theorem bin_split {s : St} {k : U → St → Prop} {G : Operator → U → U → Prop}
    (h1 : ∀ i j : Int, (k (.int (i + j)) s) → G .Add (.int i) (.int j))
    (h2 : ∀ i j : Int, (k (.int (i - j)) s) → G .Sub (.int i) (.int j))
    (h3 : ∀ i j : Int, ((match j == 2 with
        | true => k (.int (i.fdiv 2)) s
        | false => False)) → G .FloorDiv (.int i) (.int j))
    (h4 : ∀ x y : Str, ((match fits x.cps.size && fits y.cps.size with
        | true => k (.str (x ++ y)) s
        | false => False)) → G .Add (.str x) (.str y))
    (h5 : ∀ (i : Nat) (j : Int), ((match s.os[i]? with
        | some (.lst vs) => (match small j && fits (vs.length * j.toNat) with
          | true => newK s (.lst (List.replicate j.toNat vs).flatten) k
          | false => False)
        | _ => False)) → G .Mult (.loc i) (.int j))
    (h6 : ∀ (x : List Rw) (y : U), (bindO (rowsU s y) fun y => (x.length ≤ 1000 ∧ y.length ≤ 1000) ∧ k (.rows (x ++ y)) s) → G .Add (.rows x) y)
    (h7 : ∀ (i : Nat) (y : List Rw), (bindO (rowsU s (.loc i)) fun x => (x.length ≤ 1000 ∧ y.length ≤ 1000) ∧ k (.rows (x ++ y)) s) → G .Add (.loc i) (.rows y))
    (h8 : ∀ i j : Nat, ((match s.os[i]?, s.os[j]? with
        | some (.lst x), some (.lst y) => (match fits x.length && fits y.length with
          | true => newK s (.lst (x ++ y)) k
          | false => False)
        | _, _ => False)) → G .Add (.loc i) (.loc j))
    : ∀ op a b, binI s op a b k → G op a b := by
  intro op a b e
  cases op <;> first | exact False.elim e | skip
  all_goals (cases a <;> first | exact False.elim e | exact h6 _ _ e | skip)
  all_goals (cases b <;> first | exact False.elim e | exact h1 _ _ e | exact h2 _ _ e | exact h3 _ _ e | exact h4 _ _ e | exact h5 _ _ e | exact h7 _ _ e | exact h8 _ _ e)
theorem binI_ok {op : Operator} {a b : U} {x y : Value} (R : Rel P c g L own ω m s h) (ha : VI P ω a x) (hb : VI P ω b y) (e : binI s op a b k) : W c A (binaryOp op x y) h (Post P c g L own ω m k) := by
  revert ha hb e
  refine fun ha hb e => bin_split (s := s) (k := k) (G := fun op a b => VI P ω a x → VI P ω b y → W c A (binaryOp op x y) h (Post P c g L own ω m k)) ?_ ?_ ?_ ?_ ?_ ?_ ?_ ?_ op a b e ha hb
  · intro i j e ha hb
    obtain ⟨t, rfl⟩ := ha.int; obtain ⟨u, rfl⟩ := hb.int; exact b_add fun t' => post_same R .of_int e
  · intro i j e ha hb
    obtain ⟨t, rfl⟩ := ha.int; obtain ⟨u, rfl⟩ := hb.int; exact b_sub fun t' => post_same R .of_int e
  · intro i j e ha hb
    split at e
    · rename_i hj
      have hj := eq_of_beq hj
      subst hj
      obtain ⟨t, rfl⟩ := ha.int; obtain ⟨u, rfl⟩ := hb.int; exact b_div (by decide) (by decide) fun t' => post_same R .of_int e
    · exact e.elim
  · intro x' y' e ha hb
    split at e
    · rename_i hz
      rw [Bool.and_eq_true] at hz
      have z1 := fits_get hz.1; have z2 := fits_get hz.2
      obtain ⟨t, rfl⟩ := ha.str; obtain ⟨u, rfl⟩ := hb.str; exact b_sadd (by rw [Str.len_cps, Str.len_cps]; omega) fun t' => post_same R .of_str e
    · exact e.elim
  · intro i j e ha hb
    split at e
    · rename_i vs hi
      split at e
      · rename_i hz
        rw [Bool.and_eq_true] at hz
        have z1 := small_get hz.1; have z2 := fits_get hz.2
        obtain ⟨t, ht, rfl⟩ := ha.loc; obtain ⟨u, rfl⟩ := hb.int
        refine (R).use fun ls l h1 h2 S => ?_
        obtain ⟨a1, x1, p1, p2, p3⟩ := h2.at hi
        rw [ht] at p1; cases p1
        cases p3 with
        | lst p4 =>
        have ej : j = (j.toNat : Int) := by omega
        rw [ej]
        refine b_lmul S (List.mem_append_left _ p2) (by rw [← p4.len]; omega) (by omega) fun r h' S' => ?_
        exact post_new h1 h2 (.lst (p4.many _)) S' (newK_is e)
      · exact e.elim
    · exact e.elim
  · intro x' y' e ha hb
    obtain ⟨r2, e1, ⟨z1, z2⟩, e⟩ := bindO_is e
    refine (R).use fun ls l h1 h2 S => ?_
    obtain ⟨a1, xs1, rfl, p2, p3⟩ := rowsU_is (own := own) h2 ha (e := by rfl)
    obtain ⟨a2, xs2, rfl, q2, q3⟩ := rowsU_is (own := own) h2 hb e1
    refine b_ladd S p2 q2 (by rw [← p3.len, ← q3.len]; omega) fun r h' S' => ?_
    exact post_rows h1 h2 (p3.append q3) S' e
  · intro i y' e ha hb
    obtain ⟨r2, e1, ⟨z1, z2⟩, e⟩ := bindO_is e
    refine (R).use fun ls l h1 h2 S => ?_
    obtain ⟨a1, xs1, rfl, p2, p3⟩ := rowsU_is (own := own) h2 ha e1
    obtain ⟨a2, xs2, rfl, q2, q3⟩ := rowsU_is (own := own) h2 hb (e := by rfl)
    refine b_ladd S p2 q2 (by rw [← p3.len, ← q3.len]; omega) fun r h' S' => ?_
    exact post_rows h1 h2 (p3.append q3) S' e
  · intro i j e ha hb
    split at e
    · rename_i vs ws hi hj
      split at e
      · rename_i hz
        rw [Bool.and_eq_true] at hz
        have z1 := fits_get hz.1; have z2 := fits_get hz.2
        obtain ⟨t, ht, rfl⟩ := ha.loc; obtain ⟨u, hu, rfl⟩ := hb.loc
        refine (R).use fun ls l h1 h2 S => ?_
        obtain ⟨a1, x1, p1, p2, p3⟩ := h2.at hi
        rw [ht] at p1; cases p1
        obtain ⟨a2, x2, q1, q2, q3⟩ := h2.at hj
        rw [hu] at q1; cases q1
        cases p3 with
        | lst p4 =>
        cases q3 with
        | lst q4 =>
        refine b_ladd S (List.mem_append_left _ p2) (List.mem_append_left _ q2) (by rw [← p4.len, ← q4.len]; omega) fun r h' S' => ?_
        exact post_new h1 h2 (.lst (p4.append q4)) S' (newK_is e)
      · exact e.elim
    · exact e.elim
end
end Mine
namespace Mine
variable {P : LamP}
section
variable {K : Frag} {M : Mc} {c : Cx} {A : Around} {env : Env} {nm : List (Str × NameKind)} {L : Addr} {cl : List (Str × Addr)} {g h h' : Heap} {n : Nat} {m : Str → Option Value} {own : List (Addr × AObj)} {ω : Wd} {s : St} {k : U → St → Prop}
theorem VIs.nil_is {x : List Value} (h : VIs P ω [] x) : x = [] := by cases h; rfl
theorem VIs.one_is {u : U} {x : List Value} (h : VIs P ω [u] x) : ∃ v, x = [v] ∧ VI P ω u v := by
  cases h with | cons q r => cases r; exact ⟨_, rfl, q⟩
theorem VIs.two_is {u w : U} {x : List Value} (h : VIs P ω [u, w] x) : ∃ v y, x = [v, y] ∧ VI P ω u v ∧ VI P ω w y := by
  cases h with | cons q r => obtain ⟨y, rfl, q'⟩ := r.one_is; exact ⟨_, _, rfl, q, q'⟩
theorem bt_split {s : St} {k : U → St → Prop} {G : Bt → List U → Prop}
    (h1 : ∀ i : Nat, ((match s.os[i]? with
        | some (.lst vs) => (match fits vs.length with
          | true => k (.int vs.length) s
          | false => False)
        | _ => False)) → G .len [.loc i])
    (h2 : ∀ a b : Int, (k (.int (if b < a then b else a)) s) → G .min [.int a, .int b])
    (h3 : ∀ a b : Int, (k (.int (if b > a then b else a)) s) → G .max [.int a, .int b])
    (h4 : ∀ i : Nat, ((match s.os[i]? with
        | some (.idict []) => newK s (.lst []) k
        | _ => False)) → G .sorted [.loc i])
    (h5 : ∀ i : Nat, ((match s.os[i]? with
        | some (.lst vs) => (match fits vs.length with
          | true => newK s (.lst vs) k
          | false => False)
        | _ => False)) → G .list [.loc i])
    (h6 : ∀ rs : List Rw, (rs.length ≤ 1000 ∧ k (.rows rs) s) → G .list [.rows rs])
    (h7 : ∀ i : Int, ((match small i with
        | true => k (.str (Str.ofString (toString i))) s
        | false => False)) → G .str [.int i])
    : ∀ b vs, btI b s vs k → G b vs := by
  intro b vs e
  cases b <;> first | exact False.elim e | skip
  all_goals (cases vs <;> first | exact False.elim e | skip)
  all_goals (rename_i v vs; cases v <;> first | exact False.elim e | skip)
  all_goals (cases vs <;> first | exact False.elim e | exact h1 _ e | exact h4 _ e | exact h5 _ e | exact h6 _ e | exact h7 _ e | skip)
  all_goals (rename_i v vs; cases v <;> first | exact False.elim e | skip)
  all_goals (cases vs <;> first | exact False.elim e | exact h2 _ _ e | exact h3 _ _ e)
theorem btI_ok {b : Bt} {us : List U} {xs : List Value} (f : FO K c A env nm L cl g n) (R : Rel P c g L own ω m s h) (hv : VIs P ω us xs) (e : btI b s us k) : W c A (call (btV b) xs) h (Post P c g L own ω m k) := by
  revert hv e
  refine fun hv e => bt_split (s := s) (k := k) (G := fun b us => VIs P ω us xs → W c A (call (btV b) xs) h (Post P c g L own ω m k)) ?_ ?_ ?_ ?_ ?_ ?_ ?_ b us e hv
  · intro i e hv
    split at e
    · rename_i vs hi
      split at e
      · rename_i hz
        have hz := fits_get hz
        obtain ⟨x, rfl, hx⟩ := hv.one_is
        obtain ⟨a, ha, rfl⟩ := hx.loc
        refine (R).use fun ls l h1 h2 S => ?_
        obtain ⟨a1, x1, p1, p2, p3⟩ := h2.at hi
        rw [ha] at p1; cases p1
        cases p3 with
        | lst p4 =>
        exact len_lst S (List.mem_append_left _ p2) (by rw [← p4.len]; omega) fun t => by rw [← p4.len]; exact post_same R .of_int e
      · exact e.elim
    · exact e.elim
  · intro a b e hv
    obtain ⟨x, y, rfl, hx, hy⟩ := hv.two_is
    obtain ⟨t, rfl⟩ := hx.int; obtain ⟨u, rfl⟩ := hy.int
    refine (R).use fun ls l h1 h2 S => ?_
    exact min2 f S fun t' h' S' => post_same ⟨ls, l, h1, h2, S'⟩ .of_int e
  · intro a b e hv
    obtain ⟨x, y, rfl, hx, hy⟩ := hv.two_is
    obtain ⟨t, rfl⟩ := hx.int; obtain ⟨u, rfl⟩ := hy.int
    refine (R).use fun ls l h1 h2 S => ?_
    exact max2 f S fun t' h' S' => post_same ⟨ls, l, h1, h2, S'⟩ .of_int e
  · intro i e hv
    split at e
    · rename_i hi
      obtain ⟨x, rfl, hx⟩ := hv.one_is
      obtain ⟨a, ha, rfl⟩ := hx.loc
      refine (R).use fun ls l h1 h2 S => ?_
      obtain ⟨a1, x1, p1, p2, p3⟩ := h2.at hi
      rw [ha] at p1; cases p1
      cases p3 with
      | idict p4 =>
      cases p4
      exact d_sorted0 f S (List.mem_append_left _ p2) fun r h' S' => post_new h1 h2 (.lst .nil) S' (newK_is e)
    · exact e.elim
  · intro i e hv
    split at e
    · rename_i vs hi
      split at e
      · rename_i hz
        have hz := fits_get hz
        obtain ⟨x, rfl, hx⟩ := hv.one_is
        obtain ⟨a, ha, rfl⟩ := hx.loc
        refine (R).use fun ls l h1 h2 S => ?_
        obtain ⟨a1, x1, p1, p2, p3⟩ := h2.at hi
        rw [ha] at p1; cases p1
        cases p3 with
        | lst p4 =>
        exact l_copy S (List.mem_append_left _ p2) (by rw [← p4.len]; omega) fun r h' S' => post_new h1 h2 (.lst p4) S' (newK_is e)
      · exact e.elim
    · exact e.elim
  · intro rs e hv
    obtain ⟨hz, e⟩ := e
    obtain ⟨x, rfl, hx⟩ := hv.one_is
    obtain ⟨a, ys, ha, hr, rfl⟩ := hx.rows
    refine (R).use fun ls l h1 h2 S => ?_
    exact l_copy S (List.mem_append_right _ (List.mem_append_left _ ha)) (by rw [← hr.len]; omega) fun r h' S' => post_rows h1 h2 hr S' e
  · intro i e hv
    split at e
    · rename_i hz
      have hz := small_get hz
      obtain ⟨x, rfl, hx⟩ := hv.one_is
      obtain ⟨t, rfl⟩ := hx.int
      exact fun tk => str_of_int_fit (s := ⟨h, c.g, c.d, tk, c.o⟩) (N := 1000000) (by rw [if_neg (by omega)]; omega) (by decide) fun _ => ⟨_, _, rfl, post_same R .of_str e⟩
    · exact e.elim
theorem turn_at {i : Nat} {o o' : B} {a : Addr} {ls : List (Str × Option AV)} {l : List (Addr × AObj)} (h1 : LRs P ω s.ls ls) (h2 : ZR P ω ω.σ s.os l) (e : s.os[i]? = some o) (ha : ω.σ[i]? = some a) :
    ∃ x, (a, x) ∈ l ∧ BR P ω o x ∧ ∀ x', BR P ω o' x' → ∃ l', UpdA a x x' (l ++ (ω.τ ++ own)) l' ∧ ∀ h', ST c g L m ls h' l' → Rel P c g L own ω m (s.put i o') h' := by
  obtain ⟨a1, x, q1, q2, q4, q3⟩ := h2.set e
  rw [ha] at q1; cases q1
  refine ⟨x, q4, q2, fun x' q => ?_⟩
  obtain ⟨l', h5, h6⟩ := q3 o' x' q
  exact ⟨_, h5.append _, fun h' S => ⟨ls, l', h1, h6, S⟩⟩
theorem URs.split {vs ws : List U} {xs : List AV} (h : URs P ω (vs ++ ws) xs) : ∃ x1 x2, xs = x1 ++ x2 ∧ URs P ω vs x1 ∧ URs P ω ws x2 := by
  induction vs generalizing xs with
  | nil => exact ⟨[], xs, rfl, .nil, h⟩
  | cons v vs ih =>
    cases h with
    | cons q r =>
      obtain ⟨x1, x2, rfl, h1, h2⟩ := ih r
      exact ⟨_ :: x1, x2, rfl, .cons q h1, h2⟩
theorem intsU_is {us : List U} {is : List Int} (e : intsU us = some is) : us = is.map .int := by
  induction us generalizing is with
  | nil => cases e; rfl
  | cons u us ih =>
    unfold intsU at e
    split at e
    · rename_i h; cases h
    · rename_i h
      cases h
      split at e
      · rename_i is' h'
        cases e
        rw [ih h']; rfl
      · cases e
    · cases e
noncomputable def bmV : Bm → Value
  | .append => .builtin "list.append"
  | .pop => .builtin "list.pop"
  | .insert => .builtin "list.insert"
  | .extend => .builtin "list.extend"
  | .remove => .builtin "list.remove"
  | .index => .builtin "list.index"
  | .get => .builtin "dict.get"
theorem bm_split {s : St} {i : Nat} {k : U → St → Prop} {G : Bm → Option B → List U → Prop}
    (h1 : ∀ (xs : List U) (x : U), ((match fits xs.length with
        | true => putK s i (.lst (xs ++ [x])) (k .none)
        | false => False)) → G .append (some (.lst xs)) [x])
    (h2 : ∀ xs : List U, ((match xs.reverse, fits xs.length with
        | x :: r, true => putK s i (.lst r.reverse) (k x)
        | _, _ => False)) → G .pop (some (.lst xs)) [])
    (h3 : ∀ (xs : List U) (j : Int) (x : U), ((match fits xs.length && small j && Nat.ble j.toNat xs.length with
        | true => putK s i (.lst (xs.take j.toNat ++ x :: xs.drop j.toNat)) (k .none)
        | false => False)) → G .insert (some (.lst xs)) [.int j, x])
    (h4 : ∀ (xs : List U) (j : Nat), ((match s.os[j]?, Nat.beq i j with
        | some (.lst ys), false => (match fits xs.length && fits ys.length with
          | true => putK s i (.lst (xs ++ ys)) (k .none)
          | false => False)
        | _, _ => False)) → G .extend (some (.lst xs)) [.loc j])
    (h5 : ∀ (xs : List U) (j : Int), ((match intsU xs, fits xs.length with
        | some ns, true => bindO (ns.idxOf? j) fun n => k (.int n) s
        | _, _ => False)) → G .index (some (.lst xs)) [.int j])
    (h6 : ∀ (xs : List U) (j : Int), ((match intsU xs, fits xs.length with
        | some ns, true => bindO (ns.idxOf? j) fun n => putK s i (.lst ((ns.eraseIdx n).map .int)) (k .none)
        | _, _ => False)) → G .remove (some (.lst xs)) [.int j])
    (h7 : ∀ (kvs : List (Int × U)) (j : Int), (bindO (kvs.lookup j) fun v => k v s) → G .get (some (.idict kvs)) [.int j])
    (h8 : ∀ (kvs : List (Int × U)) (j : Int) (u : U), (bindO (kvs.lookup j) fun v => k v s) → G .get (some (.idict kvs)) [.int j, u])
    : ∀ m o vs, bmJ m s i o vs k → G m o vs := by
  intro m o vs e
  cases m
  all_goals (cases o <;> first | exact False.elim e | skip)
  all_goals (rename_i b; cases b <;> first | exact False.elim e | skip)
  all_goals (cases vs <;> first | exact False.elim e | exact h2 _ e | skip)
  all_goals (rename_i v vs; first
    | (cases vs <;> first | exact False.elim e | exact h1 _ _ e)
    | (cases v <;> first | exact False.elim e | (cases vs <;> first | exact False.elim e | exact h4 _ _ e | exact h5 _ _ e | exact h6 _ _ e | exact h7 _ _ e | (rename_i v vs; cases vs <;> first | exact False.elim e | exact h3 _ _ _ e | exact h8 _ _ _ e))))
theorem bmI_ok {b : Bm} {v : U} {x : Value} {us : List U} {xs : List Value} (f : FO K c A env nm L cl g n) (R : Rel P c g L own ω m s h) (hv : VI P ω v x) (hu : VIs P ω us xs) (e : bmI b s v us k) : W c A (call (bmV b) (x :: xs)) h (Post P c g L own ω m k) := by
  cases v <;> first | exact False.elim e | skip
  · rename_i i
    obtain ⟨a, ha, rfl⟩ := hv.loc
    refine (R).use fun ls l h1 h2 S => ?_
    revert hu
    refine bm_split (s := s) (i := i) (k := k) (G := fun b o us => s.os[i]? = o → VIs P ω us xs → W c A (call (bmV b) (.ref a :: xs)) h (Post P c g L own ω m k)) ?_ ?_ ?_ ?_ ?_ ?_ ?_ ?_ b s.os[i]? us e rfl
    clear e
    · intro vs u e hi hu
      split at e
      · rename_i hz
        have hz := fits_get hz
        obtain ⟨y, rfl, av, hy, hy'⟩ := hu.one_is
        obtain ⟨o, p1, p2, p3⟩ := turn_at (c := c) (g := g) (L := L) (m := m) (own := own) (o' := .lst (vs ++ [u])) h1 h2 hi ha
        cases p2 with
        | lst p4 =>
        obtain ⟨l', q1, q2⟩ := p3 _ (.lst (p4.append (.cons hy .nil)))
        exact l_append S hy' q1 (by rw [← p4.len]; omega) fun h' S' => post_same (q2 h' S') .of_none (putK_is (k := k .none) e)
      · exact e.elim
    · intro vs e hi hu
      split at e
      · rename_i u r hr hz
        have hz := fits_get hz
        have := hu.nil_is; subst this
        obtain ⟨o, p1, p2, p3⟩ := turn_at (c := c) (g := g) (L := L) (m := m) (own := own) (o' := .lst r.reverse) h1 h2 hi ha
        cases p2 with
        | lst p4 =>
        have ev : vs = r.reverse ++ [u] := by rw [← List.reverse_reverse vs, hr, List.reverse_cons]
        rw [ev] at p4
        obtain ⟨x1, x2, rfl, p5, p6⟩ := p4.split
        cases p6 with
        | cons p7 p8 =>
        cases p8
        obtain ⟨l', q1, q2⟩ := p3 _ (.lst p5)
        exact l_pop S q1 (by rw [← p5.len]; rw [ev] at hz; simp at hz; simp; omega) (p7.all fun z hz' h' S' => post_same (q2 h' S') hz' (putK_is (k := k u) e))
      · exact e.elim
    · intro vs j u e hi hu
      split at e
      · rename_i hz
        rw [Bool.and_eq_true, Bool.and_eq_true] at hz
        have z1 := fits_get hz.1.1; have z2 := small_get hz.1.2; have z3 := Nat.le_of_ble_eq_true hz.2
        obtain ⟨y1, y, rfl, hy1, av, hy, hy'⟩ := hu.two_is
        obtain ⟨t, rfl⟩ := hy1.int
        obtain ⟨o, p1, p2, p3⟩ := turn_at (c := c) (g := g) (L := L) (m := m) (own := own) (o' := .lst (vs.take j.toNat ++ u :: vs.drop j.toNat)) h1 h2 hi ha
        cases p2 with
        | lst p4 =>
        obtain ⟨l', q1, q2⟩ := p3 _ (.lst ((p4.take j.toNat).append (.cons hy (p4.drop j.toNat))))
        have ej : j = (j.toNat : Int) := by omega
        rw [ej]
        exact l_insert S hy' q1 (by rw [← p4.len]; exact z3) (by rw [← p4.len]; omega) fun h' S' => post_same (q2 h' S') .of_none (putK_is (k := k .none) e)
      · exact e.elim
    · intro vs j e hi hu
      split at e
      · rename_i ws hj hne
        split at e
        · rename_i hz
          rw [Bool.and_eq_true] at hz
          have z1 := fits_get hz.1; have z2 := fits_get hz.2
          obtain ⟨y, rfl, hy⟩ := hu.one_is
          obtain ⟨b, hb, rfl⟩ := hy.loc
          obtain ⟨a2, x2, r1, r2, r3⟩ := h2.at hj
          rw [hb] at r1; cases r1
          obtain ⟨o, p1, p2, p3⟩ := turn_at (c := c) (g := g) (L := L) (m := m) (own := own) (o' := .lst (vs ++ ws)) h1 h2 hi ha
          cases p2 with
          | lst p4 =>
          cases r3 with
          | lst r4 =>
          obtain ⟨l', q1, q2⟩ := p3 _ (.lst (p4.append r4))
          exact l_extend S (List.mem_append_left _ r2) q1 (by rw [← p4.len, ← r4.len]; omega) fun h' S' => post_same (q2 h' S') .of_none (putK_is (k := k .none) e)
        · exact e.elim
      · exact e.elim
    · intro vs j e hi hu
      split at e
      · rename_i ns hns hz
        have hz := fits_get hz
        refine bindO_use e fun q hq e => ?_
        obtain ⟨y, rfl, hy⟩ := hu.one_is
        obtain ⟨t, rfl⟩ := hy.int
        obtain ⟨a1, x1, p1, p2, p3⟩ := h2.at hi
        rw [ha] at p1; cases p1
        cases p3 with
        | lst p4 =>
        have := intsU_is hns; subst this
        have := p4.nums; subst this
        exact l_index S (List.mem_append_left _ p2) hq (by simp at hz; omega) fun t' => post_same R .of_int e
      · exact e.elim
    · intro vs j e hi hu
      split at e
      · rename_i ns hns hz
        have hz := fits_get hz
        refine bindO_use e fun q hq e => ?_
        obtain ⟨y, rfl, hy⟩ := hu.one_is
        obtain ⟨t, rfl⟩ := hy.int
        obtain ⟨o, p1, p2, p3⟩ := turn_at (c := c) (g := g) (L := L) (m := m) (own := own) (o' := .lst ((ns.eraseIdx q).map .int)) h1 h2 hi ha
        cases p2 with
        | lst p4 =>
        have := intsU_is hns; subst this
        have := p4.nums; subst this
        obtain ⟨l', q1, q2⟩ := p3 _ (.lst (URs.of_ints _))
        exact l_remove S hq (by simp at hz; omega) q1 fun h' S' => post_same (q2 h' S') .of_none (putK_is (k := k .none) e)
      · exact e.elim
    · intro kvs j e hi hu
      refine bindO_use e fun u hq e => ?_
      obtain ⟨y, rfl, hy⟩ := hu.one_is
      obtain ⟨t, rfl⟩ := hy.int
      obtain ⟨a1, x1, p1, p2, p3⟩ := h2.at hi
      rw [ha] at p1; cases p1
      cases p3 with
      | idict p4 =>
      obtain ⟨av, r1, r2⟩ := p4.at hq
      exact d_get1 f S (List.mem_append_left _ p2) r1 (r2.all fun z hz => post_same R hz e)
    · intro kvs j u' e hi hu
      refine bindO_use e fun u hq e => ?_
      obtain ⟨y, y', rfl, hy, hy'⟩ := hu.two_is
      obtain ⟨t, rfl⟩ := hy.int
      obtain ⟨a1, x1, p1, p2, p3⟩ := h2.at hi
      rw [ha] at p1; cases p1
      cases p3 with
      | idict p4 =>
      obtain ⟨av, r1, r2⟩ := p4.at hq
      exact d_get2 f S (List.mem_append_left _ p2) r1 (r2.all fun z hz => post_same R hz e)
end
end Mine
namespace Mine
variable {P : LamP}
section
variable {K : Frag} {M : Mc} {c : Cx} {A : Around} {env : Env} {nm : List (Str × NameKind)} {L : Addr} {cl : List (Str × Addr)} {g h h' : Heap} {n : Nat} {m : Str → Option Value} {own : List (Addr × AObj)} {ω : Wd} {s : St}
theorem setI_ok {o v : U} {x z : Value} {y : Str} {k : St → Prop} (T : TabOk K M) (X : K.In g) (R : Rel P c g L own ω m s h) (ho : VI P ω o x) (hv : VI P ω v z) (e : setI M s o y v k) :
    W c A (setAttr x y z) h (fun _ h' => ∃ s', Rel P c g L own ω m s' h' ∧ k s') := by
  unfold setI at e
  split at e
  · rename_i i
    split at e
    · rename_i C dx hi
      split at e
      · rename_i fs hf hd
        obtain ⟨a, ha, rfl⟩ := ho.loc
        obtain ⟨av, hv1, hv2⟩ := hv
        refine (R).use fun ls l h1 h2 S => ?_
        obtain ⟨a1, x1, p1, p2, p3⟩ := h2.at hi
        rw [ha] at p1; cases p1
        cases p3 with
        | inst p4 =>
        have ho : fieldOk K C y = true := by
          cases hl : M.T.fi.lookup C with
          | none => rw [hl] at hf; cases hf
          | some fl => rw [hl] at hf; exact T.fi C fl y hl hf
        split at e
        · rename_i hm
          have hm : y ∈ fs.map (·.1) := by simpa using hm
          obtain ⟨od, q1, q2, q3⟩ := turn_at (c := c) (g := g) (L := L) (m := m) (own := own) (o' := .attrs (setFs y v fs)) h1 h2 hd p4
          cases q2 with
          | attrs q4 =>
          obtain ⟨xs', r1, r2⟩ := q4.set hv1 hm
          obtain ⟨l', r3, r4⟩ := q3 _ (.attrs r2)
          exact s_attr X S (List.mem_append_left _ p2) ho hv2 r1 r3 fun h' S' => ⟨_, r4 h' S', putK_is e⟩
        · rename_i hm
          have hm : y ∉ fs.map (·.1) := by simpa using hm
          split at e
          · rename_i hz
            have hz : fs.length < 100 := Nat.le_of_ble_eq_true hz
            obtain ⟨od, q1, q2, q3⟩ := turn_at (c := c) (g := g) (L := L) (m := m) (own := own) (o' := .attrs (fs ++ [(y, v)])) h1 h2 hd p4
            cases q2 with
            | @attrs _ xs q4 =>
            obtain ⟨l', r3, r4⟩ := q3 _ (.attrs (q4.snoc hv1))
            have hl : xs.length = fs.length := by
              have := congrArg List.length q4.keys; simpa using this.symm
            exact s_attr_new X S (List.mem_append_left _ p2) ho hv2 (by rw [← q4.keys]; exact hm) r3 (by omega) fun h' S' => ⟨_, r4 h' S', putK_is e⟩
          · exact e.elim
      · exact e.elim
    · exact e.elim
  · exact e.elim
theorem putI_ok {o i v : U} {x y z : Value} {k : St → Prop} (R : Rel P c g L own ω m s h) (ho : VI P ω o x) (hi : VI P ω i y) (hv : VI P ω v z) (e : putI s o i v k) :
    W c A (setItem x y z) h (fun _ h' => ∃ s', Rel P c g L own ω m s' h' ∧ k s') := by
  unfold putI at e
  split at e
  · rename_i i j
    obtain ⟨a, ha, rfl⟩ := ho.loc
    obtain ⟨t, rfl⟩ := hi.int
    obtain ⟨av, hv1, hv2⟩ := hv
    refine (R).use fun ls l h1 h2 S => ?_
    split at e
    · rename_i vs hi
      split at e
      · rename_i hz
        rw [Bool.and_eq_true] at hz
        have z1 := small_get hz.1
        have z2 : j.toNat < vs.length := Nat.le_of_ble_eq_true hz.2
        obtain ⟨od, q1, q2, q3⟩ := turn_at (c := c) (g := g) (L := L) (m := m) (own := own) (o' := .lst (vs.set j.toNat v)) h1 h2 hi ha
        cases q2 with
        | lst q4 =>
        obtain ⟨l', r3, r4⟩ := q3 _ (.lst (q4.set j.toNat hv1))
        exact s_lst S z1.1 (by omega) (by rw [← q4.len]; omega) hv2 r3 fun h' S' => ⟨_, r4 h' S', putK_is e⟩
      · exact e.elim
    · rename_i kvs hi
      split at e
      · rename_i hz
        have hz := fits_get hz
        obtain ⟨od, q1, q2, q3⟩ := turn_at (c := c) (g := g) (L := L) (m := m) (own := own) (o' := .idict (storedU kvs j v)) h1 h2 hi ha
        cases q2 with
        | idict q4 =>
        obtain ⟨l', r3, r4⟩ := q3 _ (.idict (q4.stored j hv1))
        exact d_set S hv2 r3 (by rw [← q4.len]; omega) fun h' S' => ⟨_, r4 h' S', putK_is e⟩
      · exact e.elim
    · exact e.elim
  · exact e.elim
theorem partI_is {u : U} {x : Value} {o : Option Int} (h : VI P ω u x) (e : partI u = some o) : IsPart x o := by
  unfold partI at e
  split at e
  · cases e; have := h.none; subst this; exact .none
  · cases e; obtain ⟨t, rfl⟩ := h.int; exact .int _ _
  · cases e
theorem sliceI_ok {value slice : Expr} {o a b st : U} {x va vb vc : Value} {sl : Addr} {k : U → St → Prop} (R : Rel P c g L ((sl, .raw (sliceO va vb vc)) :: own) ω m s h) (ho : VI P ω o x) (ha : VI P ω a va) (hb : VI P ω b vb) (hc : VI P ω st vc) (e : sliceI s o a b st k) :
    W c A (subscriptTail value slice x (.ref sl)) h (Post P c g L own ω m k) := by
  unfold sliceI at e
  split at e
  · rename_i i lo hi' st' e1 e2 e3
    split at e
    · rename_i vs hi hs
      split at e
      · rename_i hz
        have hz := fits_get hz
        obtain ⟨d, hd, rfl⟩ := ho.loc
        refine (R).use fun ls l h1 h2 S => ?_
        obtain ⟨a1, x1, p1, p2, p3⟩ := h2.at hi
        rw [hd] at p1; cases p1
        cases p3 with
        | @lst _ xs p4 =>
        refine gi_slice S (List.mem_append_left _ p2) (List.mem_append_right _ (List.mem_append_right _ (.head _))) (partI_is ha e1) (partI_is hb e2) (partI_is hc e3) (by intro q; rw [q] at hs; simp at hs) (by rw [← p4.len]; omega) fun r h' S' => ?_
        refine (R.pop).use fun ls' l₂ k1 k2 S₂ => ?_
        refine post_new k1 k2 (x := .lst (pickA xs lo hi' st')) (.lst ?_) (S' _ _ S₂) (newK_is e)
        unfold pickU pickA
        rw [p4.len]
        exact p4.places _
      · exact e.elim
    · exact e.elim
  · exact e.elim
theorem sliceP_ok {o a b v : U} {x va vb z : Value} {sl : Addr} {k : St → Prop} (R : Rel P c g L ((sl, .raw (sliceO va vb .none)) :: own) ω m s h) (ho : VI P ω o x) (ha : VI P ω a va) (hb : VI P ω b vb) (hv : VI P ω v z) (e : sliceP s o a b v k) :
    W c A (setItem x (.ref sl) z) h (fun _ h' => ∃ s', Rel P c g L own ω m s' h' ∧ k s') := by
  unfold sliceP at e
  split at e
  · rename_i i lo hi' j e1 e2
    split at e
    · rename_i vs ws hi hj hne
      split at e
      · rename_i hz
        rw [Bool.and_eq_true] at hz
        have z1 := fits_get hz.1; have z2 := fits_get hz.2
        obtain ⟨d, hd, rfl⟩ := ho.loc
        obtain ⟨d2, hd2, rfl⟩ := hv.loc
        refine (R).use fun ls l h1 h2 S => ?_
        obtain ⟨a2, x2, r1, r2, r3⟩ := h2.at hj
        rw [hd2] at r1; cases r1
        cases r3 with
        | lst r4 =>
        obtain ⟨od, q1, q2, q3⟩ := turn_at (c := c) (g := g) (L := L) (m := m) (own := (sl, .raw (sliceO va vb .none)) :: own) (o' := .lst (vs.take (sliceBounds lo hi' none vs.length).1.toNat ++ ws ++ vs.drop (max (sliceBounds lo hi' none vs.length).1 (sliceBounds lo hi' none vs.length).2.1).toNat)) h1 h2 hi hd
        cases q2 with
        | @lst _ xs q4 =>
        obtain ⟨l', r5, r6⟩ := q3 (.lst (xs.take (sliceBounds lo hi' none xs.length).1.toNat ++ _ ++ xs.drop (max (sliceBounds lo hi' none xs.length).1 (sliceBounds lo hi' none xs.length).2.1).toNat)) (.lst (by rw [q4.len]; exact ((q4.take _).append r4).append (q4.drop _)))
        have hne' : d ≠ d2 := by
          intro q
          subst q
          have nd : ω.σ.Nodup := by
            have := S.ld.nd
            rw [List.map_append, List.nodup_append] at this
            have key : ∀ {as : List Addr} {os : List B} {l : List (Addr × AObj)}, ZR P ω as os l → l.map (·.1) = as := by
              intro as os l h
              induction h with
              | nil => rfl
              | cons _ _ ih => rw [List.map_cons, ih]
            rw [key h2] at this
            exact this.1
          have l1 := (List.getElem?_eq_some_iff.mp hd)
          have l2 := (List.getElem?_eq_some_iff.mp hd2)
          have : i = j := by
            obtain ⟨a1, b1⟩ := l1
            obtain ⟨a2, b2⟩ := l2
            have pw := List.pairwise_iff_getElem.mp nd
            rcases Nat.lt_trichotomy i j with q | q | q
            · exact absurd (b1.trans b2.symm) (pw i j a1 a2 q)
            · exact q
            · exact absurd (b2.trans b1.symm) (pw j i a2 a1 q)
          subst this
          rw [Nat.beq_refl] at hne; cases hne
        exact s_slice S (List.mem_append_left _ r2) (List.mem_append_right _ (List.mem_append_right _ (.head _))) hne' (partI_is ha e1) (partI_is hb e2) (by rw [← q4.len, ← r4.len]; omega) r5 fun h' S' => ⟨_, (r6 h' S').pop, putK_is e⟩
      · exact e.elim
    · exact e.elim
  · exact e.elim
theorem methI_fn {v : U} {x : Value} {y : Str} {fa : Addr} {pl : Sem Bool} {Q : Value × List Value → Heap → Prop} (T : TabOk K M) (X : K.In g) (R : Rel P c g L own ω m s h) (hv : VI P ω v x) (e : methI M s v y = some (.fn fa)) (q : keepIn K (.ref fa) = true → Q (.ref fa, [x]) h) :
    W c A (getMethod x y pl) h Q := by
  unfold methI at e
  split at e
  · rename_i i
    split at e
    · rename_i C dx hi
      split at e
      · rename_i fs hd
        split at e
        · rename_i fa' hf hm
          cases e
          obtain ⟨a, ha, rfl⟩ := hv.loc
          refine (R).use fun ls l h1 h2 S => ?_
          obtain ⟨a1, x1, p1, p2, p3⟩ := h2.at hi
          obtain ⟨a2, x2, q1, q2, q3⟩ := h2.at hd
          rw [ha] at p1; cases p1
          cases p3 with
          | inst p4 =>
          rw [q1] at p4; cases p4
          cases q3 with
          | attrs q4 =>
          have ho : methOk K C y fa = true := by
            cases hl : M.T.me.lookup C with
            | none => rw [hl] at hm; cases hm
            | some fl => rw [hl] at hm; exact T.me C fl y fa hl hm
          exact g_meth X S (List.mem_append_left _ p2) (List.mem_append_left _ q2) ho (by rw [← q4.keys]; simpa using hf) (q (meth_get ho).2.2.2)
        · cases e
      · cases e
    · split at e <;> cases e
    · split at e <;> cases e
    · cases e
  · cases e
theorem methI_bm {v : U} {x : Value} {y : Str} {b : Bm} {pl : Sem Bool} {Q : Value × List Value → Heap → Prop} (R : Rel P c g L own ω m s h) (hv : VI P ω v x) (e : methI M s v y = some (.bm b)) (q : Q (bmV b, [x]) h) :
    W c A (getMethod x y pl) h Q := by
  unfold methI at e
  split at e
  · rename_i i
    obtain ⟨a, ha, rfl⟩ := hv.loc
    refine (R).use fun ls l h1 h2 S => ?_
    split at e
    · split at e
      · split at e <;> cases e
      · cases e
    · rename_i vs hi
      obtain ⟨a1, x1, p1, p2, p3⟩ := h2.at hi
      rw [ha] at p1; cases p1
      cases p3 with
      | lst p4 =>
      split at e
      · rename_i b' hb
        cases e
        have hm := List.mem_append_left (ω.τ ++ own) p2
        unfold bmOf at hb
        split at hb
        · rename_i hy; subst hy; cases hb; exact lm PySem.F.slot_list_append (by rfl) S hm q
        split at hb
        · rename_i hy; subst hy; cases hb; exact lm PySem.F.slot_list_pop (by rfl) S hm q
        split at hb
        · rename_i hy; subst hy; cases hb; exact lm PySem.F.slot_list_insert (by rfl) S hm q
        split at hb
        · rename_i hy; subst hy; cases hb; exact lm PySem.F.slot_list_extend (by rfl) S hm q
        split at hb
        · rename_i hy; subst hy; cases hb; exact lm PySem.F.slot_list_remove (by rfl) S hm q
        split at hb
        · rename_i hy; subst hy; cases hb; exact lm PySem.F.slot_list_index (by rfl) S hm q
        · cases hb
      · cases e
    · rename_i kvs hi
      obtain ⟨a1, x1, p1, p2, p3⟩ := h2.at hi
      rw [ha] at p1; cases p1
      cases p3 with
      | idict p4 =>
      split at e
      · rename_i hy; subst hy; cases e; exact dm PySem.F.slot_dict_get (by rfl) S (List.mem_append_left _ p2) q
      · cases e
    · cases e
  · cases e
theorem storeI_ok {F : Fm} {x : Str} {v : U} {z : Value} {k : St → Prop} (f : FO K c A env F.nm L cl g n) (hc : CR ω F.cl cl) (R : Rel P c g L own ω m s h) (hv : VI P ω v z) (e : storeI F s x v k) :
    W c A (storeName env x z) h (fun _ h' => ∃ m' s', Rel P c g L own ω m' s' h' ∧ k s') := by
  unfold storeI at e
  split at e
  · rename_i hk
    split at e
    · rename_i hm
      have hm : x ∈ s.ls.map (·.1) := by simpa using hm
      obtain ⟨av, ls, ls', l, h1, S, u, q⟩ := R.store hv hm
      exact st_loc f S (mem_lookup hk) u h1 fun h' m' S' => ⟨m', _, q h' m' S', storeK_is e⟩
    · exact e.elim
  · rename_i hk
    split at e
    · rename_i i hi
      split at e
      · rename_i o ho
        obtain ⟨d, hd, hd'⟩ := hc x i hi
        obtain ⟨av, hv1, hv2⟩ := hv
        refine (R).use fun ls l h1 h2 S => ?_
        obtain ⟨y, q1, q2, q3⟩ := turn_at (c := c) (g := g) (L := L) (m := m) (own := own) (o' := .cell (some v)) h1 h2 ho hd'
        obtain ⟨l', r3, r4⟩ := q3 _ (.cell1 hv1)
        cases q2 with
        | cell0 => exact st_cell f S (mem_lookup hk) (mem_lookup hd) r3 hv2 fun h' S' => ⟨m, _, r4 h' S', putK_is e⟩
        | cell1 => exact st_cell f S (mem_lookup hk) (mem_lookup hd) r3 hv2 fun h' S' => ⟨m, _, r4 h' S', putK_is e⟩
      · exact e.elim
    · exact e.elim
  · exact e.elim
end
end Mine
namespace Mine
variable {P : LamP}
theorem nodupS_is : ∀ {l : List Str}, nodupS l = true → l.Nodup
  | [], _ => .nil
  | x :: r, h => by
    unfold nodupS at h
    rw [Bool.and_eq_true] at h
    rw [List.nodup_cons]
    exact ⟨by simpa using h.1, nodupS_is h.2⟩
structure FnGood (K : Frag) (fa : Addr) (f : FnI) (name qual : Str) (params : Arguments) (scope : Scope) (dV kV doc pm cdv ct : Value) (an : Option Addr) (Dv : List Value) : Prop where
  ho : ∃ oc od osl, K.lookup fa = some ⟨oc, od, .func (fnOf name qual params f.body scope dV kV doc pm an cdv ct), osl⟩
  cd : codeIn K cdv qual = true
  pp : plainPar params = true
  kd : scope.kind = .function
  co : scope.isCoroutine = false
  ge : scope.isGenerator = false
  nn : (scope.names.map (·.1)).Nodup
  pn : f.ps.Nodup
  pk : ∀ x ∈ f.ps, scope.names.lookup x = some .local ∨ scope.names.lookup x = some .cell
  ok : okNames scope.names = true
  nm : f.nm = scope.names
  ps : f.ps = params.args.map (·.arg)
  ce : f.cells = ((scope.names.filter fun p => p.2 == .cell).map (·.1)).reverse
  dv : Dv.mapM valU = some f.df
  dd : dV = .none ∧ Dv = [] ∨ ∃ a oc od xs en osl, dV = .ref a ∧ K.lookup a = some ⟨oc, od, .seq xs en, osl⟩ ∧ xs.toList = Dv
theorem fnK_get {K : Frag} {fa : Addr} {f : FnI} (h : fnK K fa = some f) : ∃ name qual params scope dV kV doc pm cdv ct an Dv, FnGood K fa f name qual params scope dV kV doc pm cdv ct an Dv := by
  unfold fnK at h
  split at h
  · rename_i oc od fd osl hl
    split at h
    · rename_i body df hb hd hok
      cases h
      obtain ⟨name, qual, params, bd, scope, gl, clo, dV, kV, doc, pm, an, cdv, ct, bu⟩ := fd
      simp only at hb hd hok hl
      subst hb
      unfold fnOk at hok
      simp only [Bool.and_eq_true, Bool.not_eq_true', beq_iff_eq, List.isEmpty_iff] at hok
      obtain ⟨⟨⟨⟨⟨⟨⟨⟨⟨⟨⟨a1, a2⟩, a3⟩, a4⟩, a5⟩, a6⟩, a7⟩, a8⟩, a9⟩, a10⟩, a11⟩, a12⟩ := hok
      subst a5
      have a6 := Nat.eq_of_beq_eq_true a6
      have a7 := Nat.eq_of_beq_eq_true a7
      subst a6
      subst a7
      have pk : ∀ x ∈ params.args.map (·.arg), scope.names.lookup x = some .local ∨ scope.names.lookup x = some .cell := fun x hx => by
        obtain ⟨p, hp, rfl⟩ := List.mem_map.mp hx
        rw [List.all_eq_true] at a11
        have := a11 p hp
        rw [Bool.or_eq_true] at this
        rcases this with q | q
        · exact .inl (eq_of_beq q)
        · exact .inr (eq_of_beq q)
      unfold dfK at hd
      split at hd
      · cases hd
        exact ⟨name, qual, params, scope, .none, kV, doc, pm, cdv, ct, an, [], ⟨⟨oc, od, osl, hl⟩, a8, a1, a2, a3, a4, nodupS_is a9, nodupS_is a10, pk, a12, rfl, rfl, rfl, rfl, .inl ⟨rfl, rfl⟩⟩⟩
      · rename_i a
        split at hd
        · rename_i oc' od' xs en osl' hl'
          exact ⟨name, qual, params, scope, .ref a, kV, doc, pm, cdv, ct, an, xs.toList, ⟨⟨oc, od, osl, hl⟩, a8, a1, a2, a3, a4, nodupS_is a9, nodupS_is a10, pk, a12, rfl, rfl, rfl, hd, .inr ⟨a, oc', od', xs, en, osl', rfl, hl', rfl⟩⟩⟩
        · cases hd
      · cases hd
    · cases h
  · cases h
theorem fnK_use {K : Frag} {fa : Addr} {f : FnI} {G : Prop} (h : fnK K fa = some f) (q : ∀ name qual params scope dV kV doc pm cdv ct an Dv, FnGood K fa f name qual params scope dV kV doc pm cdv ct an Dv → G) : G := by
  obtain ⟨name, qual, params, scope, dV, kV, doc, pm, cdv, ct, an, Dv, g⟩ := fnK_get h
  exact q _ _ _ _ _ _ _ _ _ _ _ _ g
theorem vals_is {ω : Wd} : ∀ {Dv : List Value} {df : List U}, Dv.mapM valU = some df → VIs P ω df Dv
  | [], df, h => by simp at h; subst h; exact .nil
  | v :: Dv, df, h => by
    rw [List.mapM_cons] at h
    cases e1 : valU v with
    | none => rw [e1] at h; cases h
    | some u =>
      rw [e1] at h
      cases e2 : Dv.mapM valU with
      | none => rw [e2] at h; cases h
      | some us =>
        rw [e2] at h
        cases h
        exact .cons (valU_is e1) (vals_is e2)
theorem VIs.drop {ω : Wd} {us : List U} {vs : List Value} (h : VIs P ω us vs) (i : Nat) : VIs P ω (us.drop i) (vs.drop i) := by
  induction h generalizing i with
  | nil => simp; exact .nil
  | cons a r ih => cases i with
    | zero => exact .cons a r
    | succ i => exact ih i
theorem FRs.zip {ω : Wd} {us : List U} {xs : List AV} (h : URs P ω us xs) : ∀ ns : List Str, FRs P ω (ns.zip us) (ns.zip xs) := by
  induction h with
  | nil => intro ns; simp; exact .nil
  | cons a _ ih =>
    intro ns
    cases ns with
    | nil => exact .nil
    | cons n ns => exact .cons a (ih ns)
theorem nums0 {p d u : Nat} (z1 : u ≤ p) (z2 : p ≤ u + d) (z3 : d ≤ p) : ∃ a b e, u = b + e ∧ d = b + a ∧ p = b + e + a := by
  obtain ⟨a, ha⟩ := Nat.le.dest z1
  have h : a ≤ d := Nat.le_of_add_le_add_left (ha ▸ z2)
  obtain ⟨b, hb⟩ := Nat.le.dest h
  obtain ⟨e, he⟩ := Nat.le.dest z3
  exact ⟨a, b, e, by omega, by omega, by omega⟩
theorem sub1 (a b e : Nat) : b + e + a - (b + a) = e := by omega
theorem sub2 (a b e : Nat) : b + e + a - (b + e) = a := by omega
theorem sub3 (a b : Nat) : b + a - a = b := Nat.add_sub_cancel ..
theorem sub4 (a b e : Nat) : b + e + a - e = b + a := by omega
theorem nums4 {p d u : Nat} (z1 : u ≤ p) (z2 : p ≤ u + d) (z3 : d ≤ p) : u = (p - d) + (d - (p - u)) := by
  obtain ⟨a, b, e, rfl, rfl, rfl⟩ := nums0 z1 z2 z3
  rw [sub1, sub2, sub3, Nat.add_comm]
theorem nums2 {p d u v : Nat} (z1 : u ≤ p) (z2 : p ≤ u + d) (z3 : d ≤ p) (h : d = v) : min (d - (p - u)) v = min (d - (p - u)) (p - (p - d)) := by
  subst h
  obtain ⟨a, b, e, rfl, rfl, rfl⟩ := nums0 z1 z2 z3
  rw [sub1, sub2, sub3, sub4]
theorem nums1 {p d u v : Nat} (z1 : u ≤ p) (z2 : p ≤ u + d) (z3 : d ≤ p) (h : u = v) : v = p - d + min (d - (p - u)) (p - (p - d)) := by
  rw [← nums2 z1 z2 z3 rfl, Nat.min_eq_left (Nat.sub_le _ _), ← h]
  exact nums4 z1 z2 z3
theorem nums3 {p d u v : Nat} (z1 : u ≤ p) (z2 : p ≤ u + d) (z3 : d ≤ p) (h : d = v) : v - (d - (p - u)) = p - u := by
  subst h
  obtain ⟨a, b, e, rfl, rfl, rfl⟩ := nums0 z1 z2 z3
  rw [sub2, sub3, Nat.add_sub_cancel_left]
section
variable {K : Frag} {M : Mc} {c : Cx} {A : Around} {env : Env} {nm : List (Str × NameKind)} {L : Addr} {cl : List (Str × Addr)} {g h h' : Heap} {n : Nat} {m : Str → Option Value} {own : List (Addr × AObj)} {ω : Wd} {s : St}
theorem bind_ok {fa : Addr} {f : FnI} {name qual : Str} {params : Arguments} {scope : Scope} {dV kV doc pm cdv ct : Value} {an : Option Addr} {Dv : List Value} (G : FnGood K fa f name qual params scope dV kV doc pm cdv ct an Dv) (X : K.In h) {us : List U} {vs : List Value} {b : List (Str × U)} (hv : VIs P ω us vs) (e : bindI f us = some b) :
    ∃ binds bA, (∀ tk, BindsTo ⟨h, c.g, c.d, tk, c.o⟩ (fnOf name qual params f.body scope dV kV doc pm an cdv ct) ⟨vs, []⟩ binds) ∧ BAs bA binds ∧ FRs P ω b bA ∧ (binds.map (·.1)).Nodup ∧ ∀ y ∈ binds, scope.names.lookup y.1 = some .local ∨ scope.names.lookup y.1 = some .cell := by
  unfold bindI at e
  split at e
  · rename_i hz
    cases e
    simp only [Bool.and_eq_true] at hz
    have z1 := Nat.le_of_ble_eq_true hz.1.1
    have z2 := Nat.le_of_ble_eq_true hz.1.2
    have z3 := Nat.le_of_ble_eq_true hz.2
    have hl := hv.len
    have hd := vals_is (P := P) (ω := ω) G.dv
    have hdl := hd.len
    have hcat := hv.append (hd.drop (f.df.length - (f.ps.length - us.length)))
    obtain ⟨xs, q1, q2⟩ := hcat.split
    have sub : ((f.ps.zip (vs ++ Dv.drop (f.df.length - (f.ps.length - us.length)))).map (·.1)).Sublist f.ps := zip_fst_sub _ _
    refine ⟨f.ps.zip (vs ++ Dv.drop (f.df.length - (f.ps.length - us.length))), f.ps.zip xs, fun tk => ?_, BAs.zip q2 _, FRs.zip q1 _, G.pn.sublist sub, fun y hy => G.pk _ (sub.mem (List.mem_map_of_mem hy))⟩
    have hps : f.ps = f.ps.take (f.ps.length - f.df.length) ++ (f.ps.drop (f.ps.length - f.df.length)).take (f.df.length - (f.ps.length - us.length)) ++ f.ps.drop us.length := by
      have e1 : us.length = (f.ps.length - f.df.length) + (f.df.length - (f.ps.length - us.length)) := nums4 z1 z2 z3
      rw [← List.take_add, ← e1, List.take_append_drop]
    have key := bind_core (fd := fnOf name qual params f.body scope dV kV doc pm an cdv ct) (pos := vs) (s := ⟨h, c.g, c.d, tk, c.o⟩) (n0 := f.ps.take (f.ps.length - f.df.length)) (n1 := (f.ps.drop (f.ps.length - f.df.length)).take (f.df.length - (f.ps.length - us.length))) (n2 := f.ps.drop us.length)
      (D1 := Dv.take (f.df.length - (f.ps.length - us.length))) (D2 := Dv.drop (f.df.length - (f.ps.length - us.length))) G.pp (by rw [← hps]; exact G.ps.symm) (by rw [← hps]; exact G.pn) (by simp; exact nums1 z1 z2 z3 hl) (by simp; exact nums2 z1 z2 z3 hdl) (by simp; exact nums3 z1 z2 z3 hdl) ?_
    · rw [← hps] at key; exact key
    · intro M' A' E' Q q
      rw [List.take_append_drop] at q
      rcases G.dd with ⟨rfl, rfl⟩ | ⟨a, oc, od, ys, en, osl, rfl, hk, rfl⟩
      · show wpAny M' A' (do notAStandIn .none; pure none) Q E' _
        exact wpAny_bind (wpAny_pure (wpAny_pure (q none rfl)))
      · exact wpAny_seqItems (X _ _ hk) rfl (q _ rfl)
  · cases e
theorem FRs.look {b : List (Str × U)} {bA : List (Str × AV)} (h : FRs P ω b bA) (x : Str) : match b.lookup x with
    | some u => ∃ a, bA.lookup x = some a ∧ UR P ω u a
    | none => bA.lookup x = none := by
  induction h with
  | nil => rfl
  | @cons y v a vs xs q _ ih =>
    rw [List.lookup_cons, List.lookup_cons]
    cases x == y with
    | true => exact ⟨a, rfl, q⟩
    | false => exact ih
theorem locs_ok {b : List (Str × U)} {bA : List (Str × AV)} (h : FRs P ω b bA) (nm : List (Str × NameKind)) : LRs P ω (locsOf nm b) (locsA nm bA) := by
  unfold locsOf locsA
  generalize nm.filter (fun p => p.2 == .local) = z
  induction z with
  | nil => exact .nil
  | cons p z ih =>
    rw [List.map_cons, List.map_cons]
    have := h.look p.1
    cases e : b.lookup p.1 with
    | none => rw [e] at this; rw [this]; exact .nay ih
    | some u => rw [e] at this; obtain ⟨a, h1, h2⟩ := this; rw [h1]; exact .yea h2 ih
theorem cells_ok {b : List (Str × U)} {bA : List (Str × AV)} (h : FRs P ω b bA) : ∀ cs : List (Str × Addr), ZR P ω (cs.map (·.2)) ((cs.map (·.1)).map fun x => B.cell (b.lookup x)) (cellL cs bA)
  | [] => .nil
  | p :: cs => by
    refine .cons ?_ (cells_ok h cs)
    have := h.look p.1
    show BR P ω (.cell (b.lookup p.1)) (.cell (bA.lookup p.1))
    cases e : b.lookup p.1 with
    | none => rw [e] at this; rw [this]; exact .cell0
    | some u => rw [e] at this; obtain ⟨a, h1, h2⟩ := this; rw [h1]; exact .cell1 h2
theorem ZR.append {as as' : List Addr} {os os' : List B} {l l' : List (Addr × AObj)} (h : ZR P ω as os l) (k : ZR P ω as' os' l') : ZR P ω (as ++ as') (os ++ os') (l ++ l') := by
  induction h with
  | nil => exact k
  | cons a _ ih => exact .cons a ih
theorem cellNums_ok (σ : List Addr) : ∀ (cs : List (Str × Addr)) (n : Nat) (rest : List Addr) (pre : List Addr), σ = pre ++ cs.map (·.2) → pre.length = n → ∀ x i, (cellNums (cs.map (·.1)) n).lookup x = some i → ∃ d, cs.lookup x = some d ∧ σ[i]? = some d
  | [], _, _, _, _, _, x, i, h => by cases h
  | (y, a) :: cs, n, rest, pre, hσ, hn, x, i, h => by
    unfold cellNums at h
    rw [List.map_cons, List.lookup_cons] at h
    rw [List.lookup_cons]
    split at h
    · rename_i e
      cases h
      rw [e]
      refine ⟨a, rfl, ?_⟩
      rw [hσ, ← hn]; simp
    · rename_i e
      rw [e]
      exact cellNums_ok σ cs (n + 1) rest (pre ++ [a]) (by rw [hσ]; simp) (by simp [hn]) x i h
theorem enter_ok {I : In} (HI : Sound P K M c I) (T : TabOk K M) {fa : Addr} {f : FnI} {name qual : Str} {params : Arguments} {scope : Scope} {dV kV doc pm cdv ct : Value} {an : Option Addr} {Dv : List Value} (G : FnGood K fa f name qual params scope dV kV doc pm cdv ct an Dv)
    {d : Nat} {us : List U} {k : U → St → Prop} {b : List (Str × U)} {bA : List (Str × AV)} (hb : bindI f us = some b) (hbA : FRs P ω b bA) (e : enterI I f d s us k) {ls : List (Str × Option AV)} {l : List (Addr × AObj)} (h1 : LRs P ω s.ls ls) (h2 : ZR P ω ω.σ s.os l) :
    BodyC K c scope.names f.body g L m ls d bA (l ++ (ω.τ ++ own)) (Post P c g L own ω m k) := by
  intro A' env' g' L' h' m₁ cs hcs f' S'
  unfold enterI at e
  rw [hb] at e
  dsimp only at e
  have e := forceCl_is e
  have e := forceLs_is e
  have e := forceBs_is e
  have e := forceOs_is e
  have hcs' : cs.map (·.1) = f.cells := by rw [hcs, G.ce]
  rw [← hcs', G.nm] at e
  have ex : Ext ω ⟨ω.σ ++ cs.map (·.2), ω.τ⟩ := ⟨⟨_, rfl⟩, fun _ h => h⟩
  have R' : Rel P c g' L' own ⟨ω.σ ++ cs.map (·.2), ω.τ⟩ m₁ ⟨locsOf scope.names b, s.os ++ (cs.map (·.1)).map fun x => B.cell (b.lookup x)⟩ h' := by
    have hb' : FRs P ⟨ω.σ ++ cs.map (·.2), ω.τ⟩ b bA := hbA.mono ex
    refine ⟨locsA scope.names bA, l ++ cellL cs bA, locs_ok hb' _, (h2.mono ex).append (cells_ok hb' cs), ⟨S'.lo, S'.ld.perm ?_⟩⟩
    show ((l ++ cellL cs bA) ++ (ω.τ ++ own)).Perm (cellL cs bA ++ (l ++ (ω.τ ++ own)))
    have z := List.Perm.append_right (ω.τ ++ own) (List.perm_append_comm (l₁ := l) (l₂ := cellL cs bA))
    rw [List.append_assoc (cellL cs bA) l] at z
    exact z
  have fr : FR P K M c A' ⟨scope.names, cellNums (cs.map (·.1)) s.os.length, d, none⟩ env' L' g' own ⟨ω.σ ++ cs.map (·.2), ω.τ⟩ :=
    FR.fn T f' (fun x i q => cellNums_ok _ cs s.os.length [] ω.σ rfl h2.len x i q) rfl G.ok
  refine (HI.xs e rfl fr R').mono fun fl h₂ ⟨ω', m', s', fl', e', R₂, hfl, kk⟩ => ?_
  refine (R₂).use fun ls₂ l₂ k1 k2 S₂ => ?_
  refine ⟨m', ls₂, _, S₂, fun S₃ => ⟨ω', retU fl', ⟨s.ls, s'.os⟩, ex.trans e', ⟨ls, l₂, h1.mono (ex.trans e'), k2, S₃⟩, ?_, kk⟩⟩
  cases fl <;> cases fl' <;> first | exact hfl.elim | exact hfl | exact .of_none
end
end Mine
namespace Mine
variable {P : LamP}
noncomputable def SpOk (P : LamP) (K : Frag) (M : Mc) (c : Cx) : Prop := ∀ fa q, M.sp fa = some q → ∀ {d s us k}, q d s us k → ∀ {A env nm L cl g own ω m h vs}, FO K c A env nm L cl g d → Rel P c g L own ω m s h → VIs P ω us vs → W c A (call (.ref fa) vs) h (Post P c g L own ω m k)
noncomputable def LamOk (P : LamP) (K : Frag) (c : Cx) : Prop := ∀ {A env₀ nm L cl g n m ls h l a o c' oc e env pos} {Q : Value → Heap → Prop}, FO K c A env₀ nm L cl g (n + 1) → ST c g L m ls h l → (a, .raw o) ∈ l → P o c' oc → isStar e = false →
  W c A (spliced (backTo pos (starEach [e] env))) h (fun vs h₁ => ∃ i t ls₁ l₁, vs = [.int i t] ∧ ST c g L m ls₁ h₁ l₁ ∧ (a, .raw o) ∈ l₁ ∧ (c', .raw oc) ∈ l₁ ∧ (∀ h₂, ST c g L m ls₁ h₂ l₁ → Q (.bool (decide (0 < i))) h₂)) →
  W c A (callWith pos (.ref a) [] (backTo pos (starEach [e] env)) []) h Q
section
variable {K : Frag} {M : Mc} {c : Cx} {A : Around} {env : Env} {nm : List (Str × NameKind)} {L : Addr} {cl : List (Str × Addr)} {g h h' : Heap} {n : Nat} {m : Str → Option Value} {own : List (Addr × AObj)} {ω : Wd} {s : St}
theorem callI_ok {I : In} (HI : Sound P K M c I) (T : TabOk K M) (SP : SpOk P K M c) {d : Nat} {fa : Addr} {us : List U} {vs : List Value} {k : U → St → Prop} (e : callI M I d s fa us k) (f : FO K c A env nm L cl g d) (R : Rel P c g L own ω m s h) (hv : VIs P ω us vs) :
    W c A (call (.ref fa) vs) h (Post P c g L own ω m k) := by
  unfold callI at e
  split at e
  · rename_i q hq
    exact SP fa q hq e f R hv
  · split at e
    · rename_i fi hfi
      obtain ⟨t1, t2, t3⟩ := T.cs fa fi hfi
      split at e
      · rename_i d' fn hfn
        refine fnK_use (T.fn fi fn hfn) fun name qual params scope dV kV doc pm cdv ct an Dv G => ?_
        have e := forceN_is e
        have e := forceN_is e
        have e := forceOs_is e
        refine (R).use fun ls l h1 h2 S => ?_
        obtain ⟨r, hr, N⟩ := S.ld.nw
        intro tk
        refine call_cls (s := ⟨h, c.g, c.d, tk, c.o⟩) S.ld.fr f.X N t1 t2 t3 fun x dx h' F' N' hlt hx => ?_
        have D' : ST c g L m ls h' ((x, .inst fa dx) :: (dx, .attrs []) :: (l ++ (ω.τ ++ own))) := by
          refine ⟨S.lo, F', ?_, _, .cons rfl (.cons ⟨[], 0, rfl, .nil, .nil, by simp⟩ hr), N'⟩
          have hlt' : ∀ a ∈ (l ++ (ω.τ ++ own)).map (·.1), a < dx := fun a ha => by
            rw [← hr.keys] at ha
            obtain ⟨p, hp, rfl⟩ := List.mem_map.mp ha
            exact hlt p hp
          rw [List.map_cons, List.map_cons, List.nodup_cons, List.nodup_cons, List.mem_cons, not_or]
          exact ⟨⟨Nat.ne_of_gt hx, fun q => absurd (Nat.lt_trans (hlt' x q) hx) (Nat.lt_irrefl _)⟩, fun q => absurd (hlt' dx q) (Nat.lt_irrefl _), S.ld.nd⟩
        have ex : Ext ω ⟨ω.σ ++ [dx, x], ω.τ⟩ := ⟨⟨_, rfl⟩, fun _ h => h⟩
        have hn : ω.σ.length = s.os.length := h2.len
        have h1' : LRs P ⟨ω.σ ++ [dx, x], ω.τ⟩ s.ls ls := h1.mono ex
        have h2' : ZR P ⟨ω.σ ++ [dx, x], ω.τ⟩ (ω.σ ++ [dx, x]) (s.os ++ [.attrs [], .inst fa s.os.length]) (l ++ [(dx, .attrs []), (x, .inst fa dx)]) :=
          (h2.mono ex).append (.cons (.attrs .nil) (.cons (.inst (by show (ω.σ ++ [dx, x])[s.os.length]? = _; rw [← hn]; simp)) .nil))
        have S' : ST c g L m ls h' ((l ++ [(dx, .attrs []), (x, .inst fa dx)]) ++ (ω.τ ++ own)) := by
          refine ⟨D'.lo, D'.ld.perm ?_⟩
          rw [List.append_assoc]
          show (l ++ ((dx, AObj.attrs []) :: (x, AObj.inst fa dx) :: (ω.τ ++ own))).Perm _
          exact (List.perm_middle.trans ((List.perm_middle.cons _).trans (List.Perm.swap _ _ _)))
        have hx' : (ω.σ ++ [dx, x])[s.os.length + 1]? = some x := by rw [← hn]; simp
        have hv' : VIs P ⟨ω.σ ++ [dx, x], ω.τ⟩ (.loc (s.os.length + 1) :: us) (.ref x :: vs) := .cons (.of_loc hx') (hv.mono ex)
        have X' : K.In h' := S'.inK f.X
        cases hb : bindI fn (.loc (s.os.length + 1) :: us) with
        | none => unfold enterI at e; rw [hb] at e; exact e.elim
        | some b =>
          obtain ⟨binds, bA, b1, b2, b3, b4, b5⟩ := bind_ok (c := c) G X' hv' hb
          have B := enter_ok (c := c) (g := g) (L := L) (m := m) (own := own) (ω := ⟨ω.σ ++ [dx, x], ω.τ⟩) HI T G hb b3 e h1' h2'
          obtain ⟨oc, od, osl, ho⟩ := G.ho
          refine code_fnC (FO.under f) S' (X' _ _ ho) rfl (codeRec_of X' G.cd) (b1 _) b2 b4 b5 G.nn ?_ G.co G.ge G.kd
          intro A' env' g' L' h₁ m' cs hcs f' S''
          refine (B A' env' g' L' h₁ m' cs hcs f' S'').mono fun fl h₂ ⟨m₂, ls₂, l₂, D₂, q⟩ => ⟨m₂, ls₂, l₂, D₂, fun D₃ tk' => ?_⟩
          obtain ⟨ω', v, s', e', R', hvi, kk⟩ := q D₃
          cases v with
          | none => exact ⟨hvi.none, _, _, rfl, ω', _, s', ex.trans e', R', .of_loc (e'.get hx'), kk⟩
          | _ => exact kk.elim
      · exact e.elim
    · split at e
      · rename_i d' fn hfn
        refine fnK_use (T.fn fa fn hfn) fun name qual params scope dV kV doc pm cdv ct an Dv G => ?_
        refine (R).use fun ls l h1 h2 S => ?_
        have X' : K.In h := S.inK f.X
        cases hb : bindI fn us with
        | none => unfold enterI at e; rw [hb] at e; exact e.elim
        | some b =>
          obtain ⟨binds, bA, b1, b2, b3, b4, b5⟩ := bind_ok (c := c) G X' hv hb
          have B := enter_ok (c := c) (g := g) (L := L) (m := m) (own := own) HI T G hb b3 e h1 h2
          obtain ⟨oc, od, osl, ho⟩ := G.ho
          intro tk
          refine wpAny_call (code_fnC f S (X' _ _ ho) rfl (codeRec_of X' G.cd) (b1 _) b2 b4 b5 G.nn ?_ G.co G.ge G.kd)
          intro A' env' g' L' h₁ m' cs hcs f' S''
          exact (B A' env' g' L' h₁ m' cs hcs f' S'').mono fun fl h₂ ⟨m₂, ls₂, l₂, D₂, q⟩ => ⟨m₂, ls₂, l₂, D₂, fun D₃ tk' => ⟨_, _, rfl, q D₃⟩⟩
      · exact e.elim
end
end Mine
namespace Mine
noncomputable abbrev RA := Rw × Addr
noncomputable def φR (e : RA) : AV := .ref e.2
theorem refs_eq {es : List RA} {vs ws : List Value} (h : AVs (es.map φR) vs) (k : AVs (es.map φR) ws) : vs = ws := by
  induction es generalizing vs ws with
  | nil => cases h; cases k; rfl
  | cons e es ih =>
    cases h with
    | cons a b =>
    cases k with
    | cons a' b' => rw [show _ = _ from a, show _ = _ from a', ih b b']
theorem rrs_pairs {τ : List (Addr × AObj)} {rs : List Rw} {xs : List AV} (h : RRs τ rs xs) : ∃ es : List RA, es.map (·.1) = rs ∧ xs = es.map φR ∧ ∀ e ∈ es, (e.2, .tup (e.1.is.map .int)) ∈ τ := by
  induction h with
  | nil => exact ⟨[], rfl, rfl, fun _ h => nomatch h⟩
  | @cons r a rs xs q _ ih =>
    obtain ⟨es, h1, h2, h3⟩ := ih
    refine ⟨(r, a) :: es, by rw [List.map_cons, h1], by rw [List.map_cons, ← h2]; rfl, fun e he => ?_⟩
    rcases List.mem_cons.mp he with rfl | he
    · exact q
    · exact h3 e he
theorem pairs_rrs {τ : List (Addr × AObj)} : ∀ {es : List RA}, (∀ e ∈ es, (e.2, AObj.tup (e.1.is.map .int)) ∈ τ) → RRs τ (es.map (·.1)) (es.map φR)
  | [], _ => .nil
  | e :: es, h => .cons (h e (.head _)) (pairs_rrs fun e' he => h e' (.tail _ he))
section
variable {K : Frag} {c : Cx} {A : Around} {env : Env} {nm : List (Str × NameKind)} {L : Addr} {cl : List (Str × Addr)} {g h : Heap} {n : Nat} {m : Str → Option Value} {ls ls' : List (Str × Option AV)} {l l' : List (Addr × AObj)}
theorem turns_R {scope : Scope} {cl' : List (Str × Addr)} {x : Str} {px : Pos} {ct : Expr} {es : List RA} {p : RA → Bool} {ax : Addr} {J : List (Addr × AObj) → Prop} {h₂ : Heap} {tk₂ : Nat}
    (hx : scope.names.lookup x = some .local) (hxd : (x == ("__debug__" : Str)) = false) (hkind : scope.kind = .function)
    {its : List Value} (hv : AVs (es.map φR) its) (hJ : ∀ lr, J lr → (ax, AObj.lst (es.map φR)) ∈ lr ∧ (lr.map (·.1)).Nodup)
    (test : ∀ e C oC m₂ I oI D oD h' lr, e ∈ es → J lr → CO x (φR e) oC m₂ → ST c g L m ls h' ((I, .raw oI) :: (C, .raw oC) :: (D, .raw oD) :: lr) →
      W c A (isTrue ct (compEnvC scope cl' C env) (eval ct (compEnvC scope cl' C env))) h' (fun ok h'' => ok = p e ∧ ∃ lr', J lr' ∧ ST c g L m ls h'' ((I, .raw oI) :: (C, .raw oC) :: (D, .raw oD) :: lr')))
    (lo : Loc ls m)
    {Fin : List Value → List (Addr × Obj) → Prop} (fin : ∀ ys r lr, J lr → AVs ((es.filter p).map φR) ys → Led c lr r → Fin ys r) :
    ∀ (k i : Nat) (ys : List Value) (r : List (Addr × Obj)) (lr : List (Addr × AObj)), J lr → k + i = its.length → AVs (((es.take i).filter p).map φR) ys → Led c lr r →
      LCt.CompRestT c.prog c.w A g L m env ct (.Name x px) x scope cl' ⟨h₂, c.g, c.d, tk₂, c.o⟩ (LCg.SrcAt g ax its.toArray) (fun i v => its.toArray[i]? = some v) Fin k i ys r := by
  intro k
  induction k with
  | zero =>
    intro i ys r lr j hk hy hr
    refine LCt.CompRestT.zero (fin ys r lr j ?_ hr)
    have hi : i = its.length := by omega
    have hl := hv.length
    rw [List.length_map] at hl
    rw [hi, ← hl, List.take_length] at hy
    exact hy
  | succ k ih =>
    intro i ys r lr j hk hy hr
    refine LCt.CompRestT.succ ?_
    intro v I oI C oC D m₂ h tk E' hP hC hxv F N off ne
    have hl := hv.length
    rw [List.length_map] at hl
    have hi : i < es.length := by omega
    obtain ⟨v', hv1, hv2⟩ := hv.get (i := i) (x := φR es[i]) (by rw [List.getElem?_map, List.getElem?_eq_getElem hi]; rfl)
    have hPv : its[i]? = some v := by simpa using hP
    rw [hPv] at hv1
    cases hv1
    have offm := LCg.Off3.mem off
    have hk1 : (List.map (·.1) ((I, AObj.raw oI) :: (C, .raw oC) :: (D, .raw (LCg.lst ys)) :: lr)).Nodup := by
      have e1 : ∀ a ∈ lr.map (·.1), a ≠ I ∧ a ≠ C ∧ a ≠ D := by
        intro a ha
        rw [← hr.keys] at ha
        obtain ⟨q, hq, rfl⟩ := List.mem_map.mp ha
        exact offm q hq
      simp only [List.map_cons, List.nodup_cons, List.mem_cons, not_or]
      exact ⟨⟨ne.1, ne.2.1, fun z => (e1 _ z).1 rfl⟩, ⟨ne.2.2, fun z => (e1 _ z).2.1 rfl⟩, fun z => (e1 _ z).2.2 rfl, (hJ lr j).2⟩
    have S : ST c g L m ls h ((I, .raw oI) :: (C, .raw oC) :: (D, .raw (LCg.lst ys)) :: lr) :=
      ⟨lo, F, hk1, _, .cons rfl (.cons rfl (.cons rfl hr)), N⟩
    have co : CO x (φR es[i]) oC m₂ := ⟨hC, v, hxv, hv2⟩
    have T := test es[i] C oC m₂ I oI D _ h lr (List.getElem_mem hi) j co S tk
    have fin' : ∀ (ys' : List Value) (y : Value) (h'' : Heap) (tk' : Nat) (lr' : List (Addr × AObj)), J lr' → AVs (((es.take (i + 1)).filter p).map φR) ys' → ST c g L m ls h'' ((I, .raw oI) :: (C, .raw oC) :: (D, .raw (LCg.lst ys)) :: lr') →
        LCg.CompEnd g L m ⟨h, c.g, c.d, tk, c.o⟩ I oI C oC D (LCg.lst ys) (LCg.SrcAt g ax its.toArray)
          (fun _ news' => LCt.CompRestT c.prog c.w A g L m env ct (.Name x px) x scope cl' ⟨h₂, c.g, c.d, tk₂, c.o⟩ (LCg.SrcAt g ax its.toArray) (fun i v => its.toArray[i]? = some v) Fin k (i + 1) ys' news') y ⟨h'', c.g, c.d, tk', c.o⟩ := by
      intro ys' y h'' tk' lr' j' hy' S'
      obtain ⟨F', nd', r', hr', N'⟩ := S'.ld
      cases hr' with
      | cons e1 hr' =>
      cases hr' with
      | cons e2 hr' =>
      cases hr' with
      | @cons _ _ _ _ r3 e3 hr' =>
      cases e1; cases e2; cases e3
      have src : LCg.SrcAt g ax its.toArray r3 := by
        obtain ⟨o, q1, ws, n', q2, q3⟩ := hr'.mem (hJ lr' j').1
        subst q2
        have := refs_eq q3 hv
        subst this
        exact .inr ⟨_, q1, rfl, _, rfl⟩
      refine LCg.CompEnd.intro (s₁ := ⟨h, c.g, c.d, tk, c.o⟩) F' N' r3 (fun p hp => hp) (LCg.Off3.of fun p hp => ?_) src (ih (i + 1) ys' r3 lr' j' (by omega) hy' hr')
      simp only [List.map_cons, List.nodup_cons, List.mem_cons, not_or] at nd'
      obtain ⟨⟨a1, a2, a4⟩, ⟨b1, b3⟩, c2, _⟩ := nd'
      have hq : p.1 ∈ lr'.map (·.1) := by rw [← hr'.keys]; exact List.mem_map_of_mem hp
      exact ⟨fun z => a4 (z ▸ hq), fun z => b3 (z ▸ hq), fun z => c2 (z ▸ hq)⟩
    have etake : es.take (i + 1) = es.take i ++ [es[i]] := by rw [List.take_add_one, List.getElem?_eq_getElem hi]; rfl
    refine wpAny_mono T (fun ok s' hs' => ?_) fun _ _ z => z.elim
    obtain ⟨h'', tk', rfl, hok, lr', j', S'⟩ := hs'
    subst hok
    cases hp : p es[i] with
    | true =>
      rw [if_pos rfl]
      have Z := co_name (c := c) (A := A) (env := env) (cl' := cl') (px := px) (Q := fun v h3 => v = v ∧ AV.is (φR es[i]) v ∧ h3 = h'') hx hxd hkind co (List.mem_cons_of_mem _ List.mem_cons_self) S' (fun v hv => ⟨rfl, hv, rfl⟩) tk'
      refine wpAny_mono Z (fun y s3 hs3 => ?_) fun _ _ z => z.elim
      obtain ⟨h3, tk3, rfl, _, hy3, rfl⟩ := hs3
      have := fin' (ys ++ [y]) y h3 tk3 lr' j' (by rw [etake, List.filter_append, List.map_append]; simp only [List.filter_cons, hp, if_true, List.filter_nil, List.map_cons, List.map_nil]; exact hy.append (.cons hy3 .nil)) S'
      exact this
    | false =>
      rw [if_neg Bool.false_ne_true]
      exact fin' ys _ h'' tk' lr' j' (by rw [etake, List.filter_append, List.map_append]; simpa [List.filter_cons, hp] using hy) S'
noncomputable def SrcR (c : Cx) (A : Around) (env : Env) (g : Heap) (L : Addr) (m : Str → Option Value) (scope : Scope) (cl' : List (Str × Addr)) (x : Str) (ct : Expr) (Fin : Addr → List RA → List (Addr × AObj) → Prop) (xv : Value) (h₁ : Heap) : Prop :=
  ∃ p : RA → Bool, ∃ J : List (Addr × AObj) → Prop, ∃ (ls : List (Str × Option AV)) (ax : Addr) (es : List RA) (lr : List (Addr × AObj)), xv = .ref ax ∧ J lr ∧ ST c g L m ls h₁ lr ∧ es.length ≤ 1000000 ∧ (∀ lr, J lr → (ax, AObj.lst (es.map φR)) ∈ lr ∧ (lr.map (·.1)).Nodup) ∧
    (∀ e C oC m₂ I oI D oD h' lr, e ∈ es → J lr → CO x (φR e) oC m₂ → ST c g L m ls h' ((I, .raw oI) :: (C, .raw oC) :: (D, .raw oD) :: lr) →
      W c A (isTrue ct (compEnvC scope cl' C env) (eval ct (compEnvC scope cl' C env))) h' (fun ok h'' => ok = p e ∧ ∃ lr', J lr' ∧ ST c g L m ls h'' ((I, .raw oI) :: (C, .raw oC) :: (D, .raw oD) :: lr'))) ∧
    Loc ls m ∧ ∀ D' lr, J lr → Fin D' (es.filter p) lr
theorem comp_R {scope : Scope} {cl' : List (Str × Addr)} {x : Str} {px px' pos : Pos} {ct iter : Expr} {Q : Value → Heap → Prop} (f : FO K c A env nm L cl g n) (D : ST c g L m ls h l)
    (hclos : closureFor scope env = pure cl') (hcell : ∀ y ∈ scope.names, y.2 ≠ .cell) (hkind : scope.kind = .function)
    (hnames : ∀ y ∈ scope.names, y.2 = .local → scope.names.lookup y.1 = some .local) (hx : scope.names.lookup x = some .local) (hxd : (x == ("__debug__" : Str)) = false)
    (k : W c A (eval iter env) h (SrcR c A env g L m scope cl' x ct (fun D' vf lr => ∀ h', LD c g L m h' ((D', .lst (vf.map φR)) :: lr) → Q (.ref D') h')))
    (hs : ∀ x, foldedSetIterable iter env x = pure x) : W c A (eval (.ListComp (.Name x px) [⟨.Name x px', iter, [ct], 0⟩] scope pos) env) h Q := fun tk => by
  refine LCt.ListComp_T (s := ⟨h, c.g, c.d, tk, c.o⟩) D.ld.fr hclos hcell hkind hnames hx (k.use fun xv h₁ tk₁ q => ?_) hs
  obtain ⟨p, J, ls, ax, xs, lr, rfl, j, S, hz, hJ, test, lo, q⟩ := q
  obtain ⟨F, nd, r, hr, N⟩ := S.ld
  obtain ⟨o, q1, its, n', q2, hv⟩ := hr.mem (hJ lr j).1
  subst q2
  have hl := hv.length
  rw [List.length_map] at hl
  refine LCt.CompSrcT.ledger (s₁ := ⟨h₁, c.g, c.d, tk₁, c.o⟩) f.hh F N q1 (by rw [List.size_toArray, sizeLine_eq, ← hl]; omega) fun h₂ => ?_
  rw [List.size_toArray]
  refine turns_R hx hxd hkind hv hJ test lo (fun ys r2 lr2 j2 hy hr2 => ?_) its.length 0 [] r lr j rfl .nil hr
  intro D' h3 tk3 F3 N3 o3
  refine ⟨h3, tk3, rfl, q D' lr2 j2 h3 ⟨F3, ?_, _, .cons ⟨ys, ys.length, rfl, hy⟩ hr2, N3⟩⟩
  rw [List.map_cons, List.nodup_cons]
  refine ⟨fun hm => ?_, (hJ lr2 j2).2⟩
  rw [← hr2.keys] at hm
  obtain ⟨q, hq, e⟩ := List.mem_map.mp hm
  exact off1_mem o3 q hq e
theorem comp_assign_R {scope : Scope} {cl' : List (Str × Addr)} {x y : Str} {px px' py pos spos : Pos} {ct iter : Expr} {Q : Flow → Heap → Prop} (f : FO K c A env nm L cl g n) (D : ST c g L m ls h l)
    (hsw : swapsWith (.ListComp (.Name x px) [⟨.Name x px', iter, [ct], 0⟩] scope pos) (some (.Name y py)) spos.line env = pure true)
    (hclos : closureFor scope env = pure cl') (hcell : ∀ y ∈ scope.names, y.2 ≠ .cell) (hkind : scope.kind = .function)
    (hnames : ∀ y ∈ scope.names, y.2 = .local → scope.names.lookup y.1 = some .local) (hx : scope.names.lookup x = some .local) (hxd : (x == ("__debug__" : Str)) = false) (hy : (y, .local) ∈ nm)
    (k : W c A (eval iter env) h (SrcR c A env g L m scope cl' x ct (fun D' vf lr => ∀ h', LD c g L (fun z => if z = y then some (.ref D') else m z) h' ((D', .lst (vf.map φR)) :: lr) → Q .next h')))
    (hs : ∀ x, foldedSetIterable iter env x = pure x) : W c A (exec (.Assign [.Name y py] (.ListComp (.Name x px) [⟨.Name x px', iter, [ct], 0⟩] scope pos) spos) env) h Q := fun tk => by
  obtain ⟨cn, cs, a, ccd, rfl, rfl, hkd⟩ := f.env_
  refine LCt.Assign_ListComp_T (s := ⟨h, c.g, c.d, tk, c.o⟩) (L := L) D.ld.fr rfl hsw hclos hcell hkind hnames hx (lookup_of_mem f.nms hy) (by show (cs.kind == .class || (cs.kind == .module && _)) = false; rw [hkd]; rfl) (k.use fun xv h₁ tk₁ q => ?_) hs
  obtain ⟨p, J, ls, ax, xs, lr, rfl, j, S, hz, hJ, test, lo, q⟩ := q
  obtain ⟨F, nd, r, hr, N⟩ := S.ld
  obtain ⟨o, q1, its, n', q2, hv⟩ := hr.mem (hJ lr j).1
  subst q2
  have hl := hv.length
  rw [List.length_map] at hl
  refine LCt.CompSrcT.ledger (s₁ := ⟨h₁, c.g, c.d, tk₁, c.o⟩) f.hh F N q1 (by rw [List.size_toArray, sizeLine_eq, ← hl]; omega) fun h₂ => ?_
  rw [List.size_toArray]
  refine turns_R hx hxd hkind hv hJ test lo (fun ys r2 lr2 j2 hy hr2 => ?_) its.length 0 [] r lr j rfl .nil hr
  intro D' h3 tk3 F3 N3 o3
  refine ⟨h3, tk3, rfl, q D' lr2 j2 h3 ⟨F3, ?_, _, .cons ⟨ys, ys.length, rfl, hy⟩ hr2, N3⟩⟩
  rw [List.map_cons, List.nodup_cons]
  refine ⟨fun hm => ?_, (hJ lr2 j2).2⟩
  rw [← hr2.keys] at hm
  obtain ⟨q, hq, e⟩ := List.mem_map.mp hm
  exact off1_mem o3 q hq e
theorem closure_is {env : Env} : ∀ (names : List (Str × NameKind)) (acc : List (Str × Addr)), (∀ p ∈ names, p.2 = .free → ∃ d, env.cells.lookup p.1 = some d) →
    ∃ cl', (forIn names acc fun (x : Str × NameKind) cs => (if (x.2 == NameKind.free) = true then do let a ← cellOf env x.1; pure (ForInStep.yield ((x.1, a) :: cs)) else pure (ForInStep.yield cs) : Sem _)) = pure cl' ∧
      ∀ x d, ((x ∈ acc.map (·.1) ∧ acc.lookup x = some d ∧ env.cells.lookup x = some d) ∨ ((x, NameKind.free) ∈ names ∧ env.cells.lookup x = some d)) → (∀ y d', acc.lookup y = some d' → env.cells.lookup y = some d') → cl'.lookup x = some d
  | [], acc, _ => ⟨acc, by simp, fun x d h _ => by
      rcases h with ⟨_, h, _⟩ | ⟨h, _⟩
      · exact h
      · cases h⟩
  | (y, k) :: r, acc, h => by
    by_cases hk : k = .free
    · subst hk
      obtain ⟨d, hd⟩ := h _ (.head _) rfl
      obtain ⟨cl', h1, h2⟩ := closure_is r ((y, d) :: acc) fun p hp => h p (.tail _ hp)
      refine ⟨cl', ?_, fun x d' hx hacc => ?_⟩
      · rw [List.forIn_cons]
        have : (if (NameKind.free == NameKind.free) = true then do let a ← cellOf env y; pure (ForInStep.yield ((y, a) :: acc)) else pure (ForInStep.yield acc) : Sem _) = pure (ForInStep.yield ((y, d) :: acc)) := by
          have e0 : (NameKind.free == NameKind.free) = true := rfl
          rw [if_pos e0]; unfold cellOf; rw [show env.cells.lookup y = some d from hd]; rfl
        rw [this, pure_bind]
        exact h1
      · have hacc' : ∀ z d₁, ((y, d) :: acc).lookup z = some d₁ → env.cells.lookup z = some d₁ := fun z d₁ hz => by
          rw [List.lookup_cons] at hz
          split at hz
          · rename_i e; have := eq_of_beq e; subst this; cases hz; exact hd
          · exact hacc z d₁ hz
        refine h2 x d' ?_ hacc'
        by_cases e : x = y
        · subst e
          left
          refine ⟨.head _, ?_, ?_⟩
          · rw [List.lookup_cons_self]
            rcases hx with ⟨_, _, hx⟩ | ⟨_, hx⟩ <;> (rw [hd] at hx; exact hx)
          · rcases hx with ⟨_, _, hx⟩ | ⟨_, hx⟩ <;> exact hx
        · rcases hx with ⟨a, b, c⟩ | ⟨a, b⟩
          · left
            refine ⟨.tail _ a, ?_, c⟩
            rw [List.lookup_cons, beq_eq_false_iff_ne.mpr e]; exact b
          · right
            rcases List.mem_cons.mp a with q | q
            · cases q; exact absurd rfl e
            · exact ⟨q, b⟩
    · obtain ⟨cl', h1, h2⟩ := closure_is r acc fun p hp => h p (.tail _ hp)
      refine ⟨cl', ?_, fun x d' hx hacc => h2 x d' ?_ hacc⟩
      · rw [List.forIn_cons]
        have : (k == NameKind.free) = false := by cases k <;> first | rfl | exact absurd rfl hk
        rw [this]
        simp only [Bool.false_eq_true, if_false, pure_bind]
        exact h1
      · rcases hx with hx | ⟨a, b⟩
        · exact .inl hx
        · right
          rcases List.mem_cons.mp a with q | q
          · cases q; exact absurd rfl hk
          · exact ⟨q, b⟩
theorem closureFor_is {scope : Scope} {env : Env} (h : ∀ p ∈ scope.names, p.2 = .free → ∃ d, env.cells.lookup p.1 = some d) : ∃ cl', closureFor scope env = pure cl' ∧ ∀ x d, (x, NameKind.free) ∈ scope.names → env.cells.lookup x = some d → cl'.lookup x = some d := by
  obtain ⟨cl', h1, h2⟩ := closure_is (env := env) scope.names [] h
  refine ⟨cl', ?_, fun x d a b => h2 x d (.inr ⟨a, b⟩) (fun _ _ q => nomatch q)⟩
  unfold closureFor
  rw [← bind_pure (forIn _ _ _)] at h1
  exact h1
end
end Mine
namespace Mine
section
variable {K : Frag} {c : Cx} {A : Around} {env : Env} {nm : List (Str × NameKind)} {L : Addr} {cl : List (Str × Addr)} {g h : Heap} {n : Nat} {m : Str → Option Value} {ls ls' : List (Str × Option AV)} {l l' : List (Addr × AObj)}
theorem led_three {J : List (Addr × AObj)} {r : List (Addr × Obj)} {I C D : Addr} {oI oC oD : Obj} {h : Heap} (hr : Led c J r) (nd : (J.map (·.1)).Nodup) (F : Fr g L h m) (N : News g L h ((I, oI) :: (C, oC) :: (D, oD) :: r)) (off : LCg.Off3 I C D r) (ne : I ≠ C ∧ I ≠ D ∧ C ≠ D) :
    LD c g L m h ((I, .raw oI) :: (C, .raw oC) :: (D, .raw oD) :: J) := by
  refine ⟨F, ?_, _, .cons rfl (.cons rfl (.cons rfl hr)), N⟩
  have offm := LCg.Off3.mem off
  have e1 : ∀ a ∈ J.map (·.1), a ≠ I ∧ a ≠ C ∧ a ≠ D := by
    intro a ha
    rw [← hr.keys] at ha
    obtain ⟨q, hq, rfl⟩ := List.mem_map.mp ha
    exact offm q hq
  simp only [List.map_cons, List.nodup_cons, List.mem_cons, not_or]
  exact ⟨⟨ne.1, ne.2.1, fun z => (e1 _ z).1 rfl⟩, ⟨ne.2.2, fun z => (e1 _ z).2.1 rfl⟩, fun z => (e1 _ z).2.2 rfl, nd⟩
theorem led_back {J : List (Addr × AObj)} {I C D : Addr} {oI oC oD : Obj} {h : Heap} (D' : LD c g L m h ((I, .raw oI) :: (C, .raw oC) :: (D, .raw oD) :: J)) : ∃ r, Led c J r ∧ News g L h ((I, oI) :: (C, oC) :: (D, oD) :: r) ∧ LCg.Off3 I C D r ∧ (J.map (·.1)).Nodup := by
  obtain ⟨F', nd', r', hr', N'⟩ := D'
  cases hr' with
  | cons e1 hr' =>
  cases hr' with
  | cons e2 hr' =>
  cases hr' with
  | @cons _ _ _ _ r3 e3 hr' =>
  cases e1; cases e2; cases e3
  simp only [List.map_cons, List.nodup_cons, List.mem_cons, not_or] at nd'
  obtain ⟨⟨a1, a2, a4⟩, ⟨b1, b3⟩, c2, nd⟩ := nd'
  refine ⟨r3, hr', N', LCg.Off3.of fun p hp => ?_, nd⟩
  have hq : p.1 ∈ J.map (·.1) := by rw [← hr'.keys]; exact List.mem_map_of_mem hp
  exact ⟨fun z => a4 (z ▸ hq), fun z => b3 (z ▸ hq), fun z => c2 (z ▸ hq)⟩
theorem turns_E {scope : Scope} {cl' : List (Str × Addr)} {x : Str} {elt : Expr} {n : Nat} {J : Nat → List Value → List (Addr × AObj) → Prop} {h₂ : Heap} {tk₂ : Nat} (hJ : ∀ i ys lr, J i ys lr → (lr.map (·.1)).Nodup)
    (turn : ∀ i ys lr C oC m₂ I oI D oD h', i < n → J i ys lr → CO x (.int (0 + (i : Int))) oC m₂ → LD c g L m h' ((I, .raw oI) :: (C, .raw oC) :: (D, .raw oD) :: lr) →
      W c A (eval elt (compEnvC scope cl' C env)) h' (fun y h'' => ∃ lr', J (i + 1) (ys ++ [y]) lr' ∧ LD c g L m h'' ((I, .raw oI) :: (C, .raw oC) :: (D, .raw oD) :: lr')))
    {Fin : List Value → List (Addr × Obj) → Prop} (fin : ∀ ys r lr, J n ys lr → Led c lr r → Fin ys r) :
    ∀ (k i : Nat) (ys : List Value) (r : List (Addr × Obj)) (lr : List (Addr × AObj)), k + i = n → J i ys lr → Led c lr r →
      LCg.CompRest c.prog c.w A g L m env elt x scope cl' ⟨h₂, c.g, c.d, tk₂, c.o⟩ (fun _ => True) (fun i v => ∃ t, v = .int (0 + (i : Int)) t) Fin k i ys r := by
  intro k
  induction k with
  | zero =>
    intro i ys r lr hk j hr
    have : i = n := by omega
    subst this
    exact LCg.CompRest.zero (fin ys r lr j hr)
  | succ k ih =>
    intro i ys r lr hk j hr
    refine LCg.CompRest.succ ?_
    intro v I oI C oC D m₂ h tk E' hP hC hxv F N off ne
    obtain ⟨t, rfl⟩ := hP
    have co : CO x (.int (0 + (i : Int))) oC m₂ := ⟨hC, _, hxv, t, rfl⟩
    refine wpAny_mono (turn i ys lr C oC m₂ I oI D _ h (by omega) j co (led_three hr (hJ i ys lr j) F N off ne) tk) (fun y s' hs' => ?_) fun _ _ z => z.elim
    obtain ⟨h'', tk', rfl, lr', j', D'⟩ := hs'
    obtain ⟨r', hr', N', off', _⟩ := led_back D'
    exact LCg.CompEnd.intro (s₁ := ⟨h, c.g, c.d, tk, c.o⟩) D'.fr N' r' (fun p hp => hp) off' trivial (ih (i + 1) _ r' lr' (by omega) j' hr')
theorem comp_range {scope : Scope} {cl' : List (Str × Addr)} {x y : Str} {px py pos spos : Pos} {elt iter : Expr} {N : Nat} {J : Nat → List Value → List (Addr × AObj) → Prop} {Q : Flow → Heap → Prop} (f : FO K c A env nm L cl g n) (D : LD c g L m h l)
    (hsw : swapsWith (.ListComp elt [⟨.Name x px, iter, [], 0⟩] scope pos) (some (.Name y py)) spos.line env = pure true)
    (hclos : closureFor scope env = pure cl') (hcell : ∀ y ∈ scope.names, y.2 ≠ .cell) (hkind : scope.kind = .function)
    (hnames : ∀ y ∈ scope.names, y.2 = .local → scope.names.lookup y.1 = some .local) (hx : scope.names.lookup x = some .local) (hy : (y, .local) ∈ nm) (hN : N ≤ 1000)
    (hJ : ∀ i ys lr, J i ys lr → (lr.map (·.1)).Nodup)
    (turn : ∀ i ys lr C oC m₂ I oI D oD h', i < N → J i ys lr → CO x (.int (0 + (i : Int))) oC m₂ → LD c g L m h' ((I, .raw oI) :: (C, .raw oC) :: (D, .raw oD) :: lr) →
      W c A (eval elt (compEnvC scope cl' C env)) h' (fun y h'' => ∃ lr', J (i + 1) (ys ++ [y]) lr' ∧ LD c g L m h'' ((I, .raw oI) :: (C, .raw oC) :: (D, .raw oD) :: lr')))
    (k : W c A (eval iter env) h (fun xv h₁ => ∃ r t u v lr, xv = .ref r ∧ IsRange h₁ r 0 N 1 t u v ∧ J 0 [] lr ∧ LD c g L m h₁ lr))
    (hs : ∀ x, foldedSetIterable iter env x = pure x)
    (q : ∀ D' ys lr h', J N ys lr → LD c g L (fun z => if z = y then some (.ref D') else m z) h' ((D', .raw (LCg.lst ys)) :: lr) → Q .next h') :
    W c A (exec (.Assign [.Name y py] (.ListComp elt [⟨.Name x px, iter, [], 0⟩] scope pos) spos) env) h Q := fun tk => by
  obtain ⟨cn, cs, a, ccd, rfl, rfl, hkd⟩ := f.env_
  refine LCg.Assign_ListComp_U (s := ⟨h, c.g, c.d, tk, c.o⟩) (L := L) D.fr rfl hsw hclos hcell hkind hnames hx (lookup_of_mem f.nms hy) (by show (cs.kind == .class || (cs.kind == .module && _)) = false; rw [hkd]; rfl) (k.use fun xv h₁ tk₁ qq => ?_) hs
  obtain ⟨r, t, u, v, lr, rfl, hr, j, D₁⟩ := qq
  obtain ⟨F, nd, rr, hrr, NN⟩ := D₁
  refine LCg.CompSrc.range (s₁ := ⟨h₁, c.g, c.d, tk₁, c.o⟩) (n := N) f.hh F NN hr (small_one (by omega) (by omega) (by omega) (by omega)) (by rw [rangeSize_nat]; omega) (by rw [sizeLine_eq]; omega) fun h₂ => ?_
  refine turns_E hJ turn (fun ys r2 lr2 j2 hr2 => ?_) N 0 [] rr lr rfl j hrr
  intro D' h3 tk3 F3 N3 o3
  refine ⟨h3, tk3, rfl, q D' ys lr2 h3 j2 ⟨F3, ?_, _, .cons rfl hr2, N3⟩⟩
  rw [List.map_cons, List.nodup_cons]
  refine ⟨fun hm => ?_, hJ _ _ _ j2⟩
  rw [← hr2.keys] at hm
  obtain ⟨q, hq, e⟩ := List.mem_map.mp hm
  exact off1_mem o3 q hq e
end
section
variable {prog : Program} {w : World} {A : Around} {E : Value → Shared → Prop} {s : Shared} {h₀ : Heap} {L : Addr} {m : Str → Option Value} {env : Env} {K : Type} [DecidableEq K] {knd : KeyKind prog w K}
open LCg LCt in
theorem ListComp_V {ct elt iter : Expr} {x : Str} {px : Pos} {scope : Scope} {cl : List (Str × Addr)} {pos : Pos} {Q : Value → Shared → Prop}
    (hclos : closureFor scope env = pure cl) (hcell : ∀ y ∈ scope.names, y.2 ≠ .cell) (hkind : scope.kind = .function)
    (hnames : ∀ y ∈ scope.names, y.2 = .local → scope.names.lookup y.1 = some .local) (hx : scope.names.lookup x = some .local)
    (h : wpAny (model prog w) A (eval iter env) (fun xv s₁ => ∃ v d od es ep kvs news, xv = .ref v ∧ A.handled = none ∧ Fr h₀ L s₁.heap m ∧ News h₀ L s₁.heap news ∧ s₁.heap.IsValuesView v d ∧ (d, od) ∈ news ∧ od.ExactDict ∧ od.data = .dict es ep ∧ KeysOf knd es ∧ Pairs knd es.toList kvs ∧ (kvs.map (·.1)).Nodup ∧ kvs.length ≤ sizeLine ∧
      ∀ s₂ : Shared, (∃ h, s₂ = { s₁ with heap := h }) → CompRestT prog w A h₀ L m env ct elt x scope cl s₂ (fun nw => (d, od) ∈ nw) (fun i v => ∃ k, kvs[i]? = some (k, v)) (FinE h₀ L m s₂ Q) kvs.length 0 [] news) E s)
    (hs : ∀ x, foldedSetIterable iter env x = pure x) :
    wpAny (model prog w) A (eval (.ListComp elt [⟨.Name x px, iter, [ct], 0⟩] scope pos) env) Q E s := by
  rw [eval_ListComp]
  refine wpAny_comprehension_free (use := none) rfl hs hclos hkind hnames (wpAny_mono h (fun xv s₁ h₁ => ?_) fun _ _ e => e)
  obtain ⟨v, d, od, es, ep, kvs, news, rfl, hh, F, N, hv, hd, x1, x2, x3, x4, x5, hsz, R⟩ := h₁
  have hat : s₁.heap.DictAt knd d kvs ep := ⟨od, es, (N _ hd).1, x1, x2, x3, x4, x5⟩
  have hlt : d < s₁.heap.objs.size := Heap.lt_size (N _ hd).1
  refine wpAny_pyIter_values hv hat ?_
  have up : ∀ b o, s₁.heap.get? b = some o → (s₁.heap.push { cls := .type "dict_valueiterator", data := .fields #[.ref d, .int 0 0, .int kvs.length 0, .int ep 0] }).get? b = some o := fun b o e => Heap.get?_push_of_some _ e
  refine block_T (Walks.dictValues hh s₁.heap.objs.size d (Nat.ne_of_lt hlt) kvs ep) hsz (fun i h st => by obtain ⟨o, e, _⟩ := st.1; exact ⟨o, e⟩) (fun i h h' o nw st e e' _ NN hS => ?_) hcell hkind hx ⟨⟨_, Heap.get?_push_size _ rfl, rfl, rfl⟩, hat.at' fun o e => up _ _ e⟩ (fun b hb => ?_)
    (F.keeps up) (N.grown up) (Nat.ne_of_lt F.ns.lt) (next_is_new F) (fun p hp => Nat.ne_of_lt (Heap.lt_size (N p hp).1)) hd (R _ ⟨_, rfl⟩) ?_
  · refine ⟨?_, od, es, (NN _ hS).1, x1, x2, x3, x4, x5⟩
    obtain ⟨o', q, r⟩ := st.1
    rw [e] at q; cases q
    exact ⟨o, e', r⟩
  · show b < (s₁.heap.push _).objs.size
    rw [Heap.size_push]
    rcases List.mem_cons.mp hb with rfl | hb
    · exact Nat.lt_succ_self _
    · rw [List.mem_singleton.mp hb]; exact Nat.lt_succ_of_lt hlt
  · intro D C h tk m' ys news' F' N' o1 hn hC₀ hD₀ hCL hDL hCD offC fin
    refine ⟨m', hn, fun h'' hs'' => fin D h'' tk (F'.change hs'' hCL hC₀) (fun p hp => ?_) o1⟩
    refine ⟨hs''.extBut _ _ ?_ (N' p hp).1, (N' p hp).2⟩
    rcases List.mem_cons.mp hp with rfl | hp
    · exact Ne.symm hCD
    · exact offC p hp
end
section
variable {K : Frag} {c : Cx} {A : Around} {env : Env} {nm : List (Str × NameKind)} {L : Addr} {cl : List (Str × Addr)} {g h : Heap} {n : Nat} {m : Str → Option Value} {ls ls' : List (Str × Option AV)} {l l' : List (Addr × AObj)}
theorem turns_V {scope : Scope} {cl' : List (Str × Addr)} {x : Str} {px : Pos} {ct : Expr} {kws : List (Int × Value)} {d : Addr} {od : Obj} {J : Nat → List Value → List (Addr × AObj) → Prop} {h₂ : Heap} {tk₂ : Nat}
    (hx : scope.names.lookup x = some .local) (hxd : (x == ("__debug__" : Str)) = false) (hkind : scope.kind = .function)
    (hJ : ∀ i ys lr, J i ys lr → (d, AObj.raw od) ∈ lr ∧ (lr.map (·.1)).Nodup)
    (turn : ∀ i ys lr C oC m₂ I oI D oD h' k v, kws[i]? = some (k, v) → J i ys lr → LCg.NsObj oC m₂ → m₂ x = some v → LD c g L m h' ((I, .raw oI) :: (C, .raw oC) :: (D, .raw oD) :: lr) →
      W c A (isTrue ct (compEnvC scope cl' C env) (eval ct (compEnvC scope cl' C env))) h' (fun ok h'' => ∃ lr', J (i + 1) (if ok = true then ys ++ [v] else ys) lr' ∧ LD c g L m h'' ((I, .raw oI) :: (C, .raw oC) :: (D, .raw oD) :: lr')))
    {Fin : List Value → List (Addr × Obj) → Prop} (fin : ∀ ys r lr, J kws.length ys lr → Led c lr r → Fin ys r) :
    ∀ (k i : Nat) (ys : List Value) (r : List (Addr × Obj)) (lr : List (Addr × AObj)), k + i = kws.length → J i ys lr → Led c lr r →
      LCt.CompRestT c.prog c.w A g L m env ct (.Name x px) x scope cl' ⟨h₂, c.g, c.d, tk₂, c.o⟩ (fun nw => (d, od) ∈ nw) (fun i v => ∃ k, kws[i]? = some (k, v)) Fin k i ys r := by
  intro k
  induction k with
  | zero =>
    intro i ys r lr hk j hr
    have : i = kws.length := by omega
    subst this
    exact LCt.CompRestT.zero (fin ys r lr j hr)
  | succ k ih =>
    intro i ys r lr hk j hr
    refine LCt.CompRestT.succ ?_
    intro v I oI C oC D m₂ h tk E' hP hC hxv F N off ne
    obtain ⟨key, hkv⟩ := hP
    refine wpAny_mono (turn i ys lr C oC m₂ I oI D _ h key v hkv j hC hxv (led_three hr (hJ i ys lr j).2 F N off ne) tk) (fun ok s' hs' => ?_) fun _ _ z => z.elim
    obtain ⟨h'', tk', rfl, lr', j', D'⟩ := hs'
    obtain ⟨r', hr', N', off', _⟩ := led_back D'
    have hmem : (d, od) ∈ r' := by
      obtain ⟨o, q1, q2⟩ := hr'.mem (hJ _ _ _ j').1
      cases q2; exact q1
    have hC' : h''.get? C = some oC := (N' _ (.tail _ (.head _))).1
    cases ok with
    | true =>
      simp only [if_true] at j' ⊢
      refine wpAny_Name (wpAny_loadName_local (env := compEnvC scope cl' C env) (by show (relabel scope env).kind = _; exact hkind) (lookup_relabel_local hx) (hC.ns hC') hxv ?_) hxd
      exact LCg.CompEnd.intro (s₁ := ⟨h, c.g, c.d, tk, c.o⟩) D'.fr N' r' (fun p hp => hp) off' hmem (ih (i + 1) _ r' lr' (by omega) j' hr')
    | false =>
      simp only [Bool.false_eq_true, if_false] at j' ⊢
      exact LCg.CompEnd.intro (s₁ := ⟨h, c.g, c.d, tk, c.o⟩) D'.fr N' r' (fun p hp => hp) off' hmem (ih (i + 1) _ r' lr' (by omega) j' hr')
noncomputable def SrcV (c : Cx) (A : Around) (env : Env) (g : Heap) (L : Addr) (m : Str → Option Value) (x : Str) (ct : Expr) (scope : Scope) (cl' : List (Str × Addr)) (Q : Value → Heap → Prop) (xv : Value) (h₁ : Heap) : Prop := ∃ v d od kws, ∃ J : Nat → List Value → List (Addr × AObj) → Prop, ∃ lr, xv = .ref v ∧ h₁.IsValuesView v d ∧ Obj.IsDictOf (intKind c.prog c.w) od kws ∧ kws.length ≤ 1000 ∧ J 0 [] lr ∧ LD c g L m h₁ lr ∧
      (∀ i ys lr, J i ys lr → (d, AObj.raw od) ∈ lr ∧ (lr.map (·.1)).Nodup) ∧
      (∀ i ys lr C oC m₂ I oI D oD h' k v, kws[i]? = some (k, v) → J i ys lr → LCg.NsObj oC m₂ → m₂ x = some v → LD c g L m h' ((I, .raw oI) :: (C, .raw oC) :: (D, .raw oD) :: lr) →
        W c A (isTrue ct (compEnvC scope cl' C env) (eval ct (compEnvC scope cl' C env))) h' (fun ok h'' => ∃ lr', J (i + 1) (if ok = true then ys ++ [v] else ys) lr' ∧ LD c g L m h'' ((I, .raw oI) :: (C, .raw oC) :: (D, .raw oD) :: lr'))) ∧
      ∀ D' ys lr h', J kws.length ys lr → LD c g L m h' ((D', .raw (LCg.lst ys)) :: lr) → Q (.ref D') h'
theorem SrcV.mk {c : Cx} {A : Around} {env : Env} {g : Heap} {L : Addr} {m : Str → Option Value} {x : Str} {ct : Expr} {scope : Scope} {cl' : List (Str × Addr)} {Q : Value → Heap → Prop} {xv : Value} {h₁ : Heap} {v d : Addr} {od : Obj} {kws : List (Int × Value)} (J : Nat → List Value → List (Addr × AObj) → Prop) {lr : List (Addr × AObj)} (e : xv = .ref v) (h1 : h₁.IsValuesView v d) (h2 : Obj.IsDictOf (intKind c.prog c.w) od kws) (h3 : kws.length ≤ 1000) (h4 : J 0 [] lr) (h5 : LD c g L m h₁ lr)
    (h6 : ∀ i ys lr, J i ys lr → (d, AObj.raw od) ∈ lr ∧ (lr.map (·.1)).Nodup)
    (h7 : ∀ i ys lr C oC m₂ I oI D oD h' k v, kws[i]? = some (k, v) → J i ys lr → LCg.NsObj oC m₂ → m₂ x = some v → LD c g L m h' ((I, .raw oI) :: (C, .raw oC) :: (D, .raw oD) :: lr) →
        W c A (isTrue ct (compEnvC scope cl' C env) (eval ct (compEnvC scope cl' C env))) h' (fun ok h'' => ∃ lr', J (i + 1) (if ok = true then ys ++ [v] else ys) lr' ∧ LD c g L m h'' ((I, .raw oI) :: (C, .raw oC) :: (D, .raw oD) :: lr')))
    (h8 : ∀ D' ys lr h', J kws.length ys lr → LD c g L m h' ((D', .raw (LCg.lst ys)) :: lr) → Q (.ref D') h') : SrcV c A env g L m x ct scope cl' Q xv h₁ := ⟨v, d, od, kws, J, lr, e, h1, h2, h3, h4, h5, h6, h7, h8⟩
theorem comp_values {scope : Scope} {cl' : List (Str × Addr)} {x : Str} {px px' pos : Pos} {ct iter : Expr} {Q : Value → Heap → Prop} (f : FO K c A env nm L cl g n)
    (hclos : closureFor scope env = pure cl') (hcell : ∀ y ∈ scope.names, y.2 ≠ .cell) (hkind : scope.kind = .function)
    (hnames : ∀ y ∈ scope.names, y.2 = .local → scope.names.lookup y.1 = some .local) (hx : scope.names.lookup x = some .local) (hxd : (x == ("__debug__" : Str)) = false)
    (k : W c A (eval iter env) h (SrcV c A env g L m x ct scope cl' Q))
    (hs : ∀ x, foldedSetIterable iter env x = pure x) : W c A (eval (.ListComp (.Name x px) [⟨.Name x px', iter, [ct], 0⟩] scope pos) env) h Q := fun tk => by
  refine ListComp_V (s := ⟨h, c.g, c.d, tk, c.o⟩) (h₀ := g) (L := L) (m := m) (knd := intKind c.prog c.w) hclos hcell hkind hnames hx (k.use fun xv h₁ tk₁ qq => ?_) hs
  obtain ⟨v, d, od, kws, J, lr, rfl, hv, ⟨es, ep, x1, x2, x3, x4, x5⟩, hz, j, D₁, hJ, turn, fin⟩ := qq
  obtain ⟨F, nd, r, hr, N⟩ := D₁
  have hmem : (d, od) ∈ r := by
    obtain ⟨o, q1, q2⟩ := hr.mem (hJ _ _ _ j).1
    cases q2; exact q1
  refine ⟨v, d, od, es, ep, kws, r, rfl, f.hh, F, N, hv, hmem, x1, x2, x3, x4, x5, by rw [sizeLine_eq]; omega, fun s₂ ⟨h₂, e₂⟩ => ?_⟩
  subst e₂
  refine turns_V hx hxd hkind hJ turn (fun ys r2 lr2 j2 hr2 => ?_) kws.length 0 [] r lr rfl j hr
  intro D' h3 tk3 F3 N3 o3
  refine ⟨h3, tk3, rfl, fin D' ys lr2 h3 j2 ⟨F3, ?_, _, .cons rfl hr2, N3⟩⟩
  rw [List.map_cons, List.nodup_cons]
  refine ⟨fun hm => ?_, (hJ _ _ _ j2).2⟩
  rw [← hr2.keys] at hm
  obtain ⟨q, hq, e⟩ := List.mem_map.mp hm
  exact off1_mem o3 q hq e
end
end Mine
namespace Mine
variable {P : LamP}
section
variable {K : Frag} {M : Mc} {c : Cx} {A : Around} {F : Fm} {env : Env} {nm : List (Str × NameKind)} {L : Addr} {cl : List (Str × Addr)} {g h h' : Heap} {n : Nat} {m : Str → Option Value} {own : List (Addr × AObj)} {ω : Wd} {s : St}
theorem relabel_free {env : Env} : ∀ {names : List (Str × NameKind)} {x : Str}, names.lookup x = some .free →
    ((names.map fun (n, k) => if (k == .free && env.scope.kind == .function && env.kindOf n == some .cell) then (n, .cell) else (n, k)).lookup x = some .cell ∨
     (names.map fun (n, k) => if (k == .free && env.scope.kind == .function && env.kindOf n == some .cell) then (n, .cell) else (n, k)).lookup x = some NameKind.free)
  | [], _, h => by simp at h
  | (n, k) :: r, x, h => by
    have ih := @relabel_free env r x
    rw [List.lookup_cons] at h
    rw [List.map_cons]
    split at h
    · rename_i e
      have e := eq_of_beq e
      subst e
      cases h
      show List.lookup x ((if _ then (x, NameKind.cell) else (x, NameKind.free)) :: _) = _ ∨ List.lookup x ((if _ then (x, NameKind.cell) else (x, NameKind.free)) :: _) = _
      split
      · left; rw [List.lookup_cons_self]
      · right; rw [List.lookup_cons_self]
    · rename_i e
      have hn : ∀ k', List.lookup x ((n, k') :: (r.map fun (n, k) => if (k == .free && env.scope.kind == .function && env.kindOf n == some .cell) then (n, .cell) else (n, k))) = List.lookup x (r.map fun (n, k) => if (k == NameKind.free && env.scope.kind == .function && env.kindOf n == some .cell) then (n, NameKind.cell) else (n, k)) := fun k' => by rw [List.lookup_cons, e]
      show List.lookup x ((if _ then (n, NameKind.cell) else (n, k)) :: _) = _ ∨ List.lookup x ((if _ then (n, NameKind.cell) else (n, k)) :: _) = _
      split
      · rw [hn]; exact ih h
      · rw [hn]; exact ih h
theorem relabel_glob {env : Env} : ∀ {names : List (Str × NameKind)} {x : Str}, names.lookup x = some .globalImplicit →
    (names.map fun (n, k) => if (k == NameKind.free && env.scope.kind == .function && env.kindOf n == some .cell) then (n, NameKind.cell) else (n, k)).lookup x = some .globalImplicit
  | [], _, h => by simp at h
  | (n, k) :: r, x, h => by
    have ih := @relabel_glob env r x
    rw [List.lookup_cons] at h
    rw [List.map_cons]
    split at h
    · rename_i e
      have e := eq_of_beq e
      subst e
      cases h
      show List.lookup x ((if _ then (x, NameKind.cell) else (x, NameKind.globalImplicit)) :: _) = _
      rw [if_neg (by simp), List.lookup_cons_self]
    · rename_i e
      have hn : ∀ k', List.lookup x ((n, k') :: (r.map fun (n, k) => if (k == NameKind.free && env.scope.kind == .function && env.kindOf n == some .cell) then (n, NameKind.cell) else (n, k))) = List.lookup x (r.map fun (n, k) => if (k == NameKind.free && env.scope.kind == .function && env.kindOf n == some .cell) then (n, NameKind.cell) else (n, k)) := fun k' => by rw [List.lookup_cons, e]
      show List.lookup x ((if _ then (n, NameKind.cell) else (n, k)) :: _) = _
      split
      · rw [hn]; exact ih h
      · rw [hn]; exact ih h
theorem FR.comp (T : TabOk K M) (f : FR P K M c A F env L g own ω) (hcv : F.cv = none) {sc : Scope} {cl' : List (Str × Addr)} {C : Addr} {oC : Obj} {m₂ : Str → Option Value} {x : Str} {u : U} {av : AV} (hx : sc.names.lookup x = some .local) (hxd : (x == ("__debug__" : Str)) = false) (hk : sc.kind = .function) (hok : okNames sc.names = true)
    (hcl : ∀ y d, (y, NameKind.free) ∈ sc.names → env.cells.lookup y = some d → cl'.lookup y = some d) (co : CO x av oC m₂) (hu : UR P ω u av) (hm : (C, .raw oC) ∈ own) :
    FR P K M c A { F with nm := sc.names, cv := some (x, u) } (compEnvC sc cl' C env) L g own ω := by
  refine ⟨f.fo, ?_, ?_, fun h => by cases h⟩
  · intro y v ω' own' m' s h pos Q e ho R hn q
    refine (R).use fun ls l h1 h2 S => ?_
    have hC : (C, AObj.raw oC) ∈ l ++ (ω'.τ ++ own') := List.mem_append_right _ (List.mem_append_right _ (ho _ hm))
    unfold nameI at hn
    dsimp only at hn
    split at hn
    · rename_i hxy
      have hxy := eq_of_beq hxy
      subst hxy
      cases hn
      exact co_name hx hxd hk co hC S ((hu.mono e).all q)
    · split at hn
      · rename_i hf
        split at hn
        · rename_i i hi
          split at hn
          · rename_i w hw
            cases hn
            obtain ⟨cl₀, fo, hcr⟩ := f.top hcv
            obtain ⟨d, h3, h4⟩ := (hcr.mono e) y i hi
            obtain ⟨a, z, h5, h6, h7⟩ := h2.at hw
            rw [h4] at h5
            cases h5
            cases h7 with
            | cell1 h8 =>
            obtain ⟨r, hr, N⟩ := S.ld.nw
            obtain ⟨o, k1, w', k2, k3⟩ := hr.mem (List.mem_append_left (ω'.τ ++ own') h6)
            have hcells : env.cells.lookup y = some d := by
              obtain ⟨cn, cs, a', ccd, he, _⟩ := fo.env_
              rw [he]; exact h3
            have hcl'' := hcl y d (mem_lookup hf) hcells
            intro tk
            have okd := okNames_at hok (mem_lookup hf)
            rcases relabel_free (env := env) hf with hk' | hk'
            · exact lcf_cell (s := ⟨h, c.g, c.d, tk, c.o⟩) N hcl'' k1 k2 ⟨_, _, rfl, q _ ⟨_, h8, k3⟩⟩ hk hk' okd.1
            · exact lcf_free (s := ⟨h, c.g, c.d, tk, c.o⟩) N hcl'' k1 k2 ⟨_, _, rfl, q _ ⟨_, h8, k3⟩⟩ hk hk' okd.1 okd.2
          · cases hn
        · cases hn
      · rename_i hf
        obtain ⟨cl₀, fo, hcr⟩ := f.top hcv
        obtain ⟨p, loose, mean, mg, mb, TT⟩ := fo.T
        obtain ⟨cn, cs, a', ccd, he, _⟩ := fo.env_
        have okd := okNames_at hok (mem_lookup hf)
        intro tk
        rcases T.gl y v hn with ⟨a, rfl, h3, _⟩ | ⟨i, t, rfl, h3⟩
        · exact LCgL.ld_global (s := ⟨h, c.g, c.d, tk, c.o⟩) S.ld.fr fo.X TT h3 ⟨_, _, rfl, q _ ⟨_, .glob, rfl⟩⟩ (by rw [he]) hk (relabel_glob hf) okd.1
        · exact LCgL.ld_global (s := ⟨h, c.g, c.d, tk, c.o⟩) S.ld.fr fo.X TT h3 ⟨_, _, rfl, q _ .of_int⟩ (by rw [he]) hk (relabel_glob hf) okd.1
      · cases hn
  · intro y b ω' own' m' s h pos Q R hn q
    unfold bltI at hn
    dsimp only at hn
    split at hn
    · rename_i hf
      refine (R).use fun ls l h1 h2 S => ?_
      obtain ⟨cl₀, fo, hcr⟩ := f.top hcv
      obtain ⟨p, loose, mean, mg, mb, TT⟩ := fo.T
      obtain ⟨cn, cs, a', ccd, he, _⟩ := fo.env_
      have okd := okNames_at hok (mem_lookup hf)
      obtain ⟨h3, h4, h5⟩ := T.bt y b hn
      intro tk
      exact LCgL.ld_built (s := ⟨h, c.g, c.d, tk, c.o⟩) S.ld.fr fo.X TT h3 h4 h5 ⟨_, _, rfl, q⟩ (by rw [he]) (by rw [he]) hk (relabel_glob hf) okd.1
    · cases hn
theorem SrcR.mono {scope : Scope} {cl' : List (Str × Addr)} {x : Str} {ct : Expr} {Fin Fin' : Addr → List RA → List (Addr × AObj) → Prop} {xv : Value} (S : SrcR c A env g L m scope cl' x ct Fin xv h) (k : ∀ D' vf lr, Fin D' vf lr → Fin' D' vf lr) : SrcR c A env g L m scope cl' x ct Fin' xv h := by
  obtain ⟨p, J, ls, ax, es, lr, h1, h2, h3, h4, h5, h6, h7, h8⟩ := S
  exact ⟨p, J, ls, ax, es, lr, h1, h2, h3, h4, h5, h6, h7, fun D' lr j => k _ _ _ (h8 D' lr j)⟩
noncomputable def FinR (P : LamP) (c : Cx) (m : Str → Option Value) (own : List (Addr × AObj)) (ω : Wd) (k : U → St → Prop) (_D : Addr) (vf : List RA) (lr : List (Addr × AObj)) : Prop :=
  ∃ ω' ls' l' s₁, Ext ω ω' ∧ LRs P ω' s₁.ls ls' ∧ Loc ls' m ∧ ZR P ω' ω'.σ s₁.os l' ∧ lr.Perm (l' ++ (ω'.τ ++ own)) ∧ (∀ e ∈ vf, (e.2, AObj.tup (e.1.is.map .int)) ∈ ω'.τ) ∧ k (.rows (vf.map (·.1))) s₁
theorem rows_src {I : In} (T : TabOk K M) (HI : Sound P K M c I) (f : FR P K M c A F env L g own ω) (hcv : F.cv = none) {sc : Scope} {cl' : List (Str × Addr)} {x : Str} {t : Expr} {k : U → St → Prop} (hx : sc.names.lookup x = some .local) (hxd : (x == ("__debug__" : Str)) = false) (hk : sc.kind = .function) (hok : okNames sc.names = true)
    (hcl : ∀ y d, (y, NameKind.free) ∈ sc.names → env.cells.lookup y = some d → cl'.lookup y = some d) {xv : Value} {h₁ : Heap}
    (p : Post P c g L own ω m (fun v s => match v with
        | .rows rs => rs.length ≤ 1000 ∧ ∃ p : Rw → Bool, (∀ r ∈ rs, rowTest I { F with nm := sc.names } s x t r (p r)) ∧ k (.rows (rs.filter p)) s
        | _ => False) xv h₁) : SrcR c A env g L m sc cl' x t (FinR P c m own ω k) xv h₁ := by
  obtain ⟨ω₁, v, s₁, e₁, R₁, hv, kk⟩ := p
  split at kk
  · rename_i rs
    obtain ⟨hz, p, tests, kk⟩ := kk
    obtain ⟨ax, xs, h1, h2, rfl⟩ := hv.rows
    obtain ⟨es, h3, rfl, h4⟩ := rrs_pairs h2
    refine (R₁).use fun ls l k1 k2 S => ?_
    have nd := S.ld.nd
    refine ⟨fun e => p e.1, fun lr => ∃ ω' ls' l', Ext ω₁ ω' ∧ LRs P ω' s₁.ls ls' ∧ Loc ls' m ∧ ZR P ω' ω'.σ s₁.os l' ∧ lr.Perm (l' ++ (ω'.τ ++ own)) ∧ (lr.map (·.1)).Nodup, ls, ax, es, l ++ (ω₁.τ ++ own), rfl,
      ⟨ω₁, ls, l, .refl, k1, S.lo, k2, .refl _, nd⟩, S, by rw [← h3, List.length_map] at hz; omega, ?_, ?_, S.lo, ?_⟩
    · rintro lr ⟨ω', ls', l', e', _, _, _, pm, nd'⟩
      exact ⟨pm.mem_iff.mpr (List.mem_append_right _ (List.mem_append_left _ (e'.2 _ h1))), nd'⟩
    · rintro e C oC m₂ I' oI D oD h' lr he ⟨ω', ls', l', e', j1, j2, j3, pm, nd'⟩ co S'
      have pm3 : ∀ (l' τ : List (Addr × AObj)), (l' ++ (τ ++ ((I', .raw oI) :: (C, .raw oC) :: (D, .raw oD) :: own))).Perm ((I', .raw oI) :: (C, .raw oC) :: (D, .raw oD) :: (l' ++ (τ ++ own))) := fun l' τ => by
        have z := List.Perm.append_right own (List.perm_append_comm (l₁ := l' ++ τ) (l₂ := [(I', AObj.raw oI), (C, .raw oC), (D, .raw oD)]))
        simpa [List.append_assoc] using z
      have R' : Rel P c g L ((I', .raw oI) :: (C, .raw oC) :: (D, .raw oD) :: own) ω' m s₁ h' :=
        ⟨ls', l', j1, j3, ⟨j2, S'.ld.perm ((pm3 l' ω'.τ).trans ((((pm.symm).cons _).cons _).cons _))⟩⟩
      have fr := (f.mono (own' := (I', .raw oI) :: (C, .raw oC) :: (D, .raw oD) :: own) (e₁.trans e') (fun q hq => .tail _ (.tail _ (.tail _ hq)))).comp T hcv hx hxd hk hok hcl co (u := .tup e.1.is) (.tup (e'.2 _ (h4 e he))) (.tail _ (.head _))
      have tt := tests e.1 (by rw [← h3]; exact List.mem_map_of_mem he)
      refine (HI.te tt fr R' _ (fun _ => rfl)).mono fun b h'' q => ?_
      obtain ⟨ω'', s'', e'', R'', hb, hs⟩ := q
      subst hs
      refine (R'').use fun ls'' l'' q1 q2 S'' => ?_
      have S3 : LD c g L m h'' ((I', .raw oI) :: (C, .raw oC) :: (D, .raw oD) :: (l'' ++ (ω''.τ ++ own))) := S''.ld.perm (pm3 l'' ω''.τ).symm
      refine ⟨hb, l'' ++ (ω''.τ ++ own), ⟨ω'', ls'', l'', e'.trans e'', q1, S''.lo, q2, .refl _, ?_⟩, ⟨S.lo, S3⟩⟩
      exact (S3.drop.drop.drop).nd
    · rintro D' lr ⟨ω', ls', l', e', j1, j2, j3, pm, nd'⟩
      refine ⟨ω', ls', l', s₁, e₁.trans e', j1, j2, j3, pm, fun e he => e'.2 _ (h4 e (List.mem_filter.mp he).1), ?_⟩
      have : (es.filter fun e => p e.1).map (·.1) = rs.filter p := by rw [← h3, List.filter_map]; rfl
      rw [this]; exact kk
  · exact kk.elim
end
end Mine
namespace Mine
variable {P : LamP}
section
variable {K : Frag} {M : Mc} {c : Cx} {A : Around} {F : Fm} {env : Env} {nm : List (Str × NameKind)} {L : Addr} {cl : List (Str × Addr)} {g h h' : Heap} {n : Nat} {m : Str → Option Value} {own : List (Addr × AObj)} {ω : Wd} {s : St}
theorem pm3 {own : List (Addr × AObj)} {I C D : Addr} {oI oC oD : Obj} (l' τ : List (Addr × AObj)) : (l' ++ (τ ++ ((I, .raw oI) :: (C, .raw oC) :: (D, .raw oD) :: own))).Perm ((I, .raw oI) :: (C, .raw oC) :: (D, .raw oD) :: (l' ++ (τ ++ own))) := by
  have z := List.Perm.append_right own (List.perm_append_comm (l₁ := l' ++ τ) (l₂ := [(I, AObj.raw oI), (C, .raw oC), (D, .raw oD)]))
  simpa [List.append_assoc] using z
theorem lst_is {as : List AV} {ys : List Value} (h : AVs as ys) : (AObj.lst as).Is c (LCg.lst ys) := ⟨ys, ys.length, rfl, h⟩
theorem LD.retype {l : List (Addr × AObj)} {d : Addr} {x x' : AObj} {o : Obj} (D : LD c g L m h ((d, x) :: l)) (ho : h.get? d = some o) (hx : x'.Is c o) : LD c g L m h ((d, x') :: l) :=
  D.same .head (Heap.SameBut.refl ..) ho hx
noncomputable abbrev CompJ (P : LamP) (own : List (Addr × AObj)) (ω : Wd) (m : Str → Option Value) (I : In) (F : Fm) (sc : Scope) (x : Str) (elt : Expr) (k0 : List U → St → Prop) (is : List Int) (i : Nat) (ys : List Value) (lr : List (Addr × AObj)) : Prop := ∃ us ω' ls' l' s', compI I { F with nm := sc.names } x elt k0 (is.drop i) us s' ∧ VIs P ω' us ys ∧ Ext ω ω' ∧ LRs P ω' s'.ls ls' ∧ Loc ls' m ∧ ZR P ω' ω'.σ s'.os l' ∧ lr.Perm (l' ++ (ω'.τ ++ own)) ∧ (lr.map (·.1)).Nodup
theorem comp_rel {x : Str} {elt : Expr} {sc : Scope} {cl' : List (Str × Addr)} {k0 : List U → St → Prop} {is : List Int} {N : Nat} {I : In} (T : TabOk K M) (HI : Sound P K M c I) (f : FR P K M c A F env L g own ω) (hcv : F.cv = none)
    (hx : sc.names.lookup x = some .local) (hxd : (x == ("__debug__" : Str)) = false) (hk : sc.kind = .function) (hok : okNames sc.names = true) (hcl : ∀ y d, (y, NameKind.free) ∈ sc.names → env.cells.lookup y = some d → cl'.lookup y = some d)
    (his : ∀ i, i < N → is[i]? = some (0 + (i : Int))) :
    ∀ i ys lr C oC m₂ I' oI D oD h', i < N → CompJ P own ω m I F sc x elt k0 is i ys lr → CO x (.int (0 + (i : Int))) oC m₂ → LD c g L m h' ((I', .raw oI) :: (C, .raw oC) :: (D, .raw oD) :: lr) →
      W c A (eval elt (compEnvC sc cl' C env)) h' (fun y h'' => ∃ lr', CompJ P own ω m I F sc x elt k0 is (i + 1) (ys ++ [y]) lr' ∧ LD c g L m h'' ((I', .raw oI) :: (C, .raw oC) :: (D, .raw oD) :: lr')) := by
  intro i ys lr C oC m₂ I' oI D oD h' hi J co D'
  obtain ⟨us, ω', ls', l', s', e, hu, ex, j1, j2, j3, pm, nd⟩ := J
  have hd : is.drop i = (0 + (i : Int)) :: is.drop (i + 1) := by
    obtain ⟨hl, he⟩ := List.getElem?_eq_some_iff.mp (his i hi)
    rw [List.drop_eq_getElem_cons hl, he]
  rw [hd] at e
  have e : I.ev { F with nm := sc.names, cv := some (x, .int (0 + (i : Int))) } s' elt fun v s => compI I { F with nm := sc.names } x elt k0 (is.drop (i + 1)) (us ++ [v]) s := e
  have R' : Rel P c g L ((I', .raw oI) :: (C, .raw oC) :: (D, .raw oD) :: own) ω' m s' h' := ⟨ls', l', j1, j3, ⟨j2, D'.perm ((pm3 l' ω'.τ).trans ((((pm.symm).cons _).cons _).cons _))⟩⟩
  have fr := (f.mono (own' := (I', .raw oI) :: (C, .raw oC) :: (D, .raw oD) :: own) ex (fun q hq => .tail _ (.tail _ (.tail _ hq)))).comp T hcv hx hxd hk hok hcl co (u := .int (0 + (i : Int))) .int (.tail _ (.head _))
  refine (HI.ev e fr R').mono fun y h'' q => ?_
  obtain ⟨ω'', v, s'', e'', R'', hv, kk⟩ := q
  refine (R'').use fun ls'' l'' q1 q2 S'' => ?_
  have S3 : LD c g L m h'' ((I', .raw oI) :: (C, .raw oC) :: (D, .raw oD) :: (l'' ++ (ω''.τ ++ own))) := S''.ld.perm (pm3 l'' ω''.τ).symm
  exact ⟨_, ⟨us ++ [v], ω'', ls'', l'', s'', kk, (hu.mono e'').append (.cons hv .nil), ex.trans e'', q1, S''.lo, q2, .refl _, S3.drop.drop.drop.nd⟩, S3⟩
theorem compI_end {x y : Str} {elt : Expr} {k0 : List U → St → Prop} {k : Fl → St → Prop} {I : In} {us : List U} {ys : List Value} {ω' : Wd} {ls' : List (Str × Option AV)} {l' lr : List (Addr × AObj)} {s' : St} {D' : Addr} (hy : F.nm.lookup y = some .local)
    (e : newK s' (.lst us) fun v s => storeI F s y v (k .next)) (hu : VIs P ω' us ys) (ex : Ext ω ω') (j1 : LRs P ω' s'.ls ls') (j2 : Loc ls' m) (j3 : ZR P ω' ω'.σ s'.os l') (pm : lr.Perm (l' ++ (ω'.τ ++ own)))
    (D : LD c g L (fun z => if z = y then some (.ref D') else m z) h' ((D', .raw (LCg.lst ys)) :: lr)) : PostF P c g L own ω k .next h' := by
  have e := newK_is e
  obtain ⟨as, a1, a2⟩ := hu.split
  obtain ⟨o, ho, hx⟩ := D.at (.head _)
  have hx : o = LCg.lst ys := hx
  subst hx
  have D2 := (D.retype ho (lst_is a2)).perm (((pm.symm).cons (D', AObj.lst as)))
  have ex2 : Ext ω' ⟨ω'.σ ++ [D'], ω'.τ⟩ := Ext.alloc
  unfold storeI at e
  rw [hy] at e
  dsimp only at e
  split at e
  · rename_i hm
    have hm : y ∈ s'.ls.map (·.1) := by simpa [St.new] using hm
    have hloc : UR P ⟨ω'.σ ++ [D'], ω'.τ⟩ (.loc s'.os.length) (.ref D') := .loc (at_new j3)
    obtain ⟨ls₂, u, k2⟩ := (j1.mono ex2).set hloc hm
    refine ⟨_, _, ⟨setLs y (.loc s'.os.length) (s'.new (.lst us)).ls, (s'.new (.lst us)).os⟩, .next, ex.trans ex2, ⟨ls₂, l' ++ [(D', .lst as)], k2, (j3.mono ex2).snoc (BR.lst (a1.mono ex2)), ⟨j2.store u rfl, D2.perm ?_⟩⟩, trivial, storeK_is e⟩
    show (l' ++ [(D', AObj.lst as)] ++ (ω'.τ ++ own)).Perm _
    rw [List.append_assoc, List.singleton_append]
    exact List.perm_middle
  · exact e.elim
theorem irs_items {kvs : List (Int × U)} {xs : List (Int × AV)} {kws : List (Int × Value)} (h : IRs P ω kvs xs) (q : IKvs xs kws) : ∀ (i : Nat) (key : Int) (v' : Value), kws[i]? = some (key, v') → ∃ u, (kvs.map (·.2))[i]? = some u ∧ VI P ω u v' := by
  induction h generalizing kws with
  | nil => intro i key v' e; cases q; cases e
  | @cons kk w y' vs' xs' hw hr' ih =>
    intro i key v' e
    cases q with
    | cons a1 a2 =>
    cases i with
    | zero => simp only [List.getElem?_cons_zero, Option.some.injEq, Prod.mk.injEq] at e; obtain ⟨rfl, rfl⟩ := e; exact ⟨w, rfl, _, hw, a1⟩
    | succ i => exact ih a2 i key v' e
noncomputable def ValJ (P : LamP) (own : List (Addr × AObj)) (ω₁ : Wd) (m : Str → Option Value) (ii : Nat) (od : Obj) (V : List U → List U → St → Prop) (us : List U) (i : Nat) (ys : List Value) (lr : List (Addr × AObj)) : Prop :=
  ∃ acc s' ω' ls' l', V (us.drop i) acc s' ∧ s'.os[ii]? = some (.raw od) ∧ VIs P ω' acc ys ∧ Ext ω₁ ω' ∧ LRs P ω' s'.ls ls' ∧ Loc ls' m ∧ ZR P ω' ω'.σ s'.os l' ∧ lr.Perm (l' ++ (ω'.τ ++ own)) ∧ (lr.map (·.1)).Nodup
theorem vals_mem {ω₁ : Wd} {ii : Nat} {od : Obj} {V : List U → List U → St → Prop} {us : List U} {j : Nat} {ys : List Value} {lr : List (Addr × AObj)} {a : Addr} (ha : ω₁.σ[ii]? = some a) (J : ValJ P own ω₁ m ii od V us j ys lr) : (a, AObj.raw od) ∈ lr ∧ (lr.map (·.1)).Nodup := by
  obtain ⟨acc, s', ω', ls', l', j0, hi', j1, j2, j3, j4, j5, pm, nd⟩ := J
  refine ⟨?_, nd⟩
  obtain ⟨a', x', y1, y2, y3⟩ := j5.at hi'
  rw [j2.get ha] at y1; cases y1
  cases y3
  exact pm.mem_iff.mpr (List.mem_append_left _ y2)
theorem vals_turn {x : Str} {t : Expr} {sc : Scope} {cl' : List (Str × Addr)} {I : In} {ω₁ : Wd} {ii : Nat} {od : Obj} {V : List U → List U → St → Prop} {us : List U} {j : Nat} {ys : List Value} {lr : List (Addr × AObj)} {C I' Dd : Addr} {oC oI oD : Obj} {h₅ : Heap} {u : U} {av : AV} {v' : Value}
    (HI : Sound P K M c I) (fr : FR P K M c A { F with nm := sc.names, cv := some (x, u) } (compEnvC sc cl' C env) L g ((I', .raw oI) :: (C, .raw oC) :: (Dd, .raw oD) :: own) ω₁)
    (hV : ∀ rest acc s', V (u :: rest) acc s' → I.te { F with nm := sc.names, cv := some (x, u) } s' t fun b s' => s'.os[ii]? = some (.raw od) ∧ br b (V rest (acc ++ [u]) s') (V rest acc s'))
    (J : ValJ P own ω₁ m ii od V us j ys lr) (hd : us.drop j = u :: us.drop (j + 1)) (w2 : UR P ω₁ u av) (w3 : av.is v') (D₅ : LD c g L m h₅ ((I', .raw oI) :: (C, .raw oC) :: (Dd, .raw oD) :: lr)) :
    W c A (isTrue t (compEnvC sc cl' C env) (eval t (compEnvC sc cl' C env))) h₅ (fun ok h₆ => ∃ lr', ValJ P own ω₁ m ii od V us (j + 1) (if ok then ys ++ [v'] else ys) lr' ∧ LD c g L m h₆ ((I', .raw oI) :: (C, .raw oC) :: (Dd, .raw oD) :: lr')) := by
  obtain ⟨acc, s', ω', ls', l', j0, hi', j1, j2, j3, j4, j5, pm, nd⟩ := J
  rw [hd] at j0
  refine (HI.te (hV _ _ _ j0) (fr.ext j2) ⟨ls', l', j3, j5, ⟨j4, D₅.perm ((pm3 l' ω'.τ).trans ((((pm.symm).cons _).cons _).cons _))⟩⟩ _ (fun _ => rfl)).mono fun ok h₆ q => ?_
  obtain ⟨ω'', s'', e'', R'', hs, hb⟩ := q
  have hb := br_is hb
  refine (R'').use fun ls'' l'' y1 y2 S'' => ?_
  have S3 : LD c g L m h₆ ((I', .raw oI) :: (C, .raw oC) :: (Dd, .raw oD) :: (l'' ++ (ω''.τ ++ own))) := S''.ld.perm (pm3 l'' ω''.τ).symm
  cases ok with
  | true => exact ⟨_, ⟨acc ++ [u], s'', ω'', ls'', l'', hb, hs, (j1.mono e'').append (.cons ⟨av, (w2.mono j2).mono e'', w3⟩ .nil), j2.trans e'', y1, S''.lo, y2, .refl _, S3.drop.drop.drop.nd⟩, S3⟩
  | false => exact ⟨_, ⟨acc, s'', ω'', ls'', l'', hb, hs, j1.mono e'', j2.trans e'', y1, S''.lo, y2, .refl _, S3.drop.drop.drop.nd⟩, S3⟩
theorem vals_end {ω₁ : Wd} {ii : Nat} {od : Obj} {V : List U → List U → St → Prop} {us : List U} {n : Nat} {ys : List Value} {lr : List (Addr × AObj)} {a D' : Addr} {k : U → St → Prop} {h₅ : Heap} {kvs : List (Int × U)} {xs : List (Int × AV)} {kws : List (Int × Value)}
    (ha : ω₁.σ[ii]? = some a) (hV : ∀ acc s', V [] acc s' → putK s' ii (.idict kvs) fun s'' => newK s'' (.lst acc) k) (hn : us.drop n = []) (p4 : IRs P ω₁ kvs xs) (q2 : Obj.IsDictOf (intKind c.prog c.w) od kws) (q3 : IKvs xs kws)
    (J : ValJ P own ω₁ m ii od V us n ys lr) (D₅ : LD c g L m h₅ ((D', .raw (LCg.lst ys)) :: lr)) : Post P c g L own ω₁ m k (.ref D') h₅ := by
  obtain ⟨acc, s', ω', ls', l', j0, hi', j1, j2, j3, j4, j5, pm, nd⟩ := J
  rw [hn] at j0
  have e := newK_is (putK_is (hV _ _ j0))
  obtain ⟨as, a1, a2⟩ := j1.split
  obtain ⟨o, ho, hx'⟩ := D₅.at (.head _)
  have hx' : o = LCg.lst ys := hx'
  subst hx'
  have D6 := (D₅.retype ho (lst_is a2)).perm (((pm.symm).cons (D', AObj.lst as)))
  obtain ⟨a', x', y1, y2, y4, y3⟩ := j5.set hi'
  rw [j2.get ha] at y1; cases y1
  cases y2
  obtain ⟨l'', w1, w2⟩ := y3 (.idict kvs) _ (.idict (p4.mono j2))
  obtain ⟨o2, ho2, hx2⟩ := D6.at (.tail _ (List.mem_append_left _ y4))
  have hx2 : o2 = od := hx2
  subst hx2
  have D7 : LD c g L m h₅ ((D', .lst as) :: (l'' ++ (ω'.τ ++ own))) := D6.same (.tail (w1.append _)) (Heap.SameBut.refl ..) ho2 ⟨kws, q2, q3⟩
  exact (post_new (s := s'.put ii (.idict kvs)) j3 w2 (.lst a1) (d := D') ⟨j4, D7⟩ e).ext j2
theorem vals_ok {x x' y : Str} {d : Expr} {ap cp px px' pos : Pos} {t : Expr} {sc : Scope} {k : U → St → Prop} {I : In} (T : TabOk K M) (HI : Sound P K M c I) (e1 : valsC I F s x x' d y ap cp t sc k) (f : FR P K M c A F env L g own ω) (R : Rel P c g L own ω m s h)
    (bk : blockOk F x (.Call (.Attribute d y ap) [] [] cp) sc = true → F.cv = none ∧ isSetE (.Call (.Attribute d y ap) [] [] cp) = false ∧ (∃ cl, FO K c A env F.nm L cl g F.d ∧ CR ω F.cl cl) ∧ sc.kind = .function ∧ (∀ y ∈ sc.names, y.2 ≠ .cell) ∧ (∀ y ∈ sc.names, y.2 = .local → sc.names.lookup y.1 = some .local) ∧ sc.names.lookup x = some .local ∧ (x == ("__debug__" : Str)) = false ∧ okNames sc.names = true ∧
      ∃ cl', closureFor sc env = pure cl' ∧ ∀ y d, (y, NameKind.free) ∈ sc.names → env.cells.lookup y = some d → cl'.lookup y = some d) :
    W c A (eval (.ListComp (.Name x px) [⟨.Name x' px', .Call (.Attribute d y ap) [] [] cp, [t], 0⟩] sc pos) env) h (Post P c g L own ω m k) := by
  unfold valsC at e1
  split at e1
  · rename_i hb
    simp only [Bool.and_eq_true] at hb
    obtain ⟨⟨⟨⟨b1, b2⟩, b3⟩, b4⟩, b5⟩ := hb
    have b1 := eq_of_beq b1
    have b2 := eq_of_beq b2
    have b4 := Nat.eq_of_beq_eq_true b4
    subst b1; subst b2
    obtain ⟨hcv, hset, ⟨cl, fo, hcr⟩, hk, hcell, hnames, hx, hxd, hok, cl', hclos, hcl⟩ := bk b5
    refine comp_values (L := L) (g := g) (m := m) fo hclos hcell hk hnames hx hxd ?_ (fold_no hset)
    refine e_mcallG b3 rfl (by decide) b4 ((HI.ev e1 f R).mono ?_)
    intro xv h₁ pp; refine Post.use pp fun ω₁ v s₁ e₁ R₁ hv e1 => ?_
    intro pl
    split at e1
    · rename_i ii
      split at e1
      · rename_i kvs hi
        split at e1
        · rename_i hz
          have hz := Nat.le_of_ble_eq_true hz
          obtain ⟨a, ha, rfl⟩ := hv.loc
          refine (R₁).use fun ls l h1 h2 S => ?_
          obtain ⟨a1, x1, p1, p2, p3⟩ := h2.at hi
          rw [ha] at p1; cases p1
          cases p3 with
          | @idict _ xs p4 =>
          have hmm := List.mem_append_left (ω₁.τ ++ own) p2
          refine dm PySem.F.slot_dict_values (by rfl) S hmm ?_
          refine cw_b0 ?_
          intro tk
          obtain ⟨r, hr, N⟩ := S.ld.nw
          obtain ⟨od, q1, kws, q2, q3⟩ := hr.mem hmm
          refine kdl_view_values (s := ⟨h₁, c.g, c.d, tk, c.o⟩) S.ld.fr N q1 q2 (S.notMod fo hmm) fun D h₂ F₂ N₂ hlt => ?_
          have hput := putK_is (e1 od)
          obtain ⟨z, z1, z2, z3⟩ := turn_at (c := c) (g := g) (L := L) (m := m) (own := own) (o' := B.raw od) h1 h2 hi ha
          cases z2 with
          | @idict _ xs2 z4 =>
          obtain ⟨l', u1, u2⟩ := z3 (.raw od) .raw
          have S₂ : ST c g L m ls h₂ (l ++ (ω₁.τ ++ own)) := ⟨S.lo, F₂, S.ld.nd, r, hr, fun p hp => N₂ p (.tail _ hp)⟩
          have hod : h₂.get? a = some od := (N₂ _ (.tail _ q1)).1
          have S₃ : ST c g L m ls h₂ l' := ⟨S.lo, S₂.ld.same u1 (Heap.SameBut.refl ..) hod rfl⟩
          have R₃ := u2 h₂ S₃
          refine (R₃).use fun ls₃ l₃ k1 k2 S₄ => ?_
          have hraw : (s₁.put ii (.raw od)).os[ii]? = some (.raw od) := by
            show (s₁.os.set ii (.raw od))[ii]? = _
            rw [List.getElem?_set_self (List.getElem?_eq_some_iff.mp hi).1]
          have hlen : kws.length = kvs.length := by rw [← q3.length, ← p4.len]
          refine ⟨h₂, tk, rfl, SrcV.mk (v := D) (d := a) (od := od) (kws := kws) (lr := l₃ ++ (ω₁.τ ++ own)) (ValJ P own ω₁ m ii od (valsI I { F with nm := sc.names } x t ii od fun us s' => putK s' ii (.idict kvs) fun s'' => newK s'' (.lst us) k) (kvs.map (·.2)))
            rfl ⟨_, (N₂ _ (.head _)).1, rfl, rfl⟩ q2 (by omega) ⟨[], _, ω₁, ls₃, l₃, hput, hraw, .nil, .refl, k1, S₄.lo, k2, .refl _, S₄.ld.nd⟩ S₄.ld (fun j ys lr J => vals_mem ha J) ?_ ?_⟩
          · intro j ys lr C oC m₂ I' oI Dd oD h₅ key v' hkv J hC hxv D₅
            obtain ⟨u, w1, av, w2, w3⟩ := irs_items p4 q3 j key v' hkv
            have hd : (kvs.map (·.2)).drop j = u :: (kvs.map (·.2)).drop (j + 1) := by
              obtain ⟨hl, he⟩ := List.getElem?_eq_some_iff.mp w1
              rw [List.drop_eq_getElem_cons hl, he]
            exact vals_turn HI ((f.mono (own' := (I', .raw oI) :: (C, .raw oC) :: (Dd, .raw oD) :: own) e₁ (fun q hq => .tail _ (.tail _ (.tail _ hq)))).comp T hcv hx hxd hk hok hcl (co := ⟨hC, v', hxv, w3⟩) (u := u) w2 (.tail _ (.head _))) (fun _ _ _ z => z) J hd w2 w3 D₅
          · intro D' ys lr h₅ J D₅
            exact (vals_end ha (fun _ _ z => z) (List.drop_eq_nil_of_le (by rw [List.length_map, hlen]; exact Nat.le_refl _)) p4 q2 q3 J D₅).ext e₁
        · exact e1.elim
      · exact e1.elim
    · exact e1.elim
  · exact e1.elim
end
end Mine
namespace Mine
section
variable {K : Frag} {c : Cx} {A : Around} {env : Env} {nm : List (Str × NameKind)} {L : Addr} {cl : List (Str × Addr)} {g h : Heap} {n : Nat} {m : Str → Option Value} {ls ls' : List (Str × Option AV)} {l l' : List (Addr × AObj)}
theorem turns_M {scope : Scope} {cl' : List (Str × Addr)} {x : Str} {elt : Expr} {ns : List Int} {f : Int → Int} {ax : Addr} {oax : Obj} {lr : List (Addr × AObj)} {h₂ : Heap} {tk₂ : Nat}
    {its : List Value} (hv : AVs (ns.map .int) its) (hcls : oax.cls = .type "list") (hdat : ∃ n, oax.data = .seq its.toArray n)
    (turn : ∀ e C oC m₂ I oI D oD h', e ∈ ns → CO x (.int e) oC m₂ → ST c g L m ls h' ((I, .raw oI) :: (C, .raw oC) :: (D, .raw oD) :: (ax, .raw oax) :: lr) →
      W c A (eval elt (compEnvC scope cl' C env)) h' (fun y h'' => AV.is (.int (f e)) y ∧ ST c g L m ls h'' ((I, .raw oI) :: (C, .raw oC) :: (D, .raw oD) :: (ax, .raw oax) :: lr)))
    (lo : Loc ls m)
    {Fin : List Value → List (Addr × Obj) → Prop} (fin : ∀ ys r, AVs ((ns.map f).map .int) ys → Led c lr r → Fin ys ((ax, oax) :: r)) (hnd : (ax :: lr.map (·.1)).Nodup) :
    ∀ (k i : Nat) (ys : List Value) (r : List (Addr × Obj)), k + i = its.length → AVs (((ns.take i).map f).map .int) ys → Led c lr r →
      LCg.CompRest c.prog c.w A g L m env elt x scope cl' ⟨h₂, c.g, c.d, tk₂, c.o⟩ (LCg.SrcAt g ax its.toArray) (fun i v => its.toArray[i]? = some v) Fin k i ys ((ax, oax) :: r) := by
  intro k
  induction k with
  | zero =>
    intro i ys r hk hy hr
    refine LCg.CompRest.zero (fin ys r ?_ hr)
    have hi : i = its.length := by omega
    have hl := hv.length
    rw [List.length_map] at hl
    rw [hi, ← hl, List.take_length] at hy
    exact hy
  | succ k ih =>
    intro i ys r hk hy hr
    refine LCg.CompRest.succ ?_
    intro v I oI C oC D m₂ h tk E' hP hC hxv F N off ne
    have hl := hv.length
    rw [List.length_map] at hl
    have hi : i < ns.length := by omega
    obtain ⟨v', hv1, hv2⟩ := hv.get (i := i) (x := .int ns[i]) (by rw [List.getElem?_map, List.getElem?_eq_getElem hi]; rfl)
    have hPv : its[i]? = some v := by simpa using hP
    rw [hPv] at hv1
    cases hv1
    have offm := LCg.Off3.mem off
    have hk1 : (List.map (·.1) ((I, AObj.raw oI) :: (C, .raw oC) :: (D, .raw (LCg.lst ys)) :: (ax, .raw oax) :: lr)).Nodup := by
      have e1 : ∀ a ∈ (ax :: lr.map (·.1)), a ≠ I ∧ a ≠ C ∧ a ≠ D := by
        intro a ha
        rw [← hr.keys] at ha
        rcases List.mem_cons.mp ha with rfl | ha
        · exact offm (_, oax) (.head _)
        · obtain ⟨q, hq, rfl⟩ := List.mem_map.mp ha
          exact offm q (.tail _ hq)
      simp only [List.map_cons, List.nodup_cons, List.mem_cons, not_or]
      rw [List.nodup_cons] at hnd
      refine ⟨⟨ne.1, ne.2.1, Ne.symm (e1 ax (.head _)).1, fun z => (e1 _ (.tail _ z)).1 rfl⟩, ⟨ne.2.2, Ne.symm (e1 ax (.head _)).2.1, fun z => (e1 _ (.tail _ z)).2.1 rfl⟩, ⟨Ne.symm (e1 ax (.head _)).2.2, fun z => (e1 _ (.tail _ z)).2.2 rfl⟩, hnd⟩
    have S : ST c g L m ls h ((I, .raw oI) :: (C, .raw oC) :: (D, .raw (LCg.lst ys)) :: (ax, .raw oax) :: lr) :=
      ⟨lo, F, hk1, _, .cons rfl (.cons rfl (.cons rfl (.cons rfl hr))), N⟩
    have co : CO x (.int ns[i]) oC m₂ := ⟨hC, v, hxv, hv2⟩
    have etake : ns.take (i + 1) = ns.take i ++ [ns[i]] := by rw [List.take_add_one, List.getElem?_eq_getElem hi]; rfl
    refine wpAny_mono (turn ns[i] C oC m₂ I oI D _ h (List.getElem_mem hi) co S tk) (fun y s' hs' => ?_) fun _ _ z => z.elim
    obtain ⟨h'', tk', rfl, hyv, S'⟩ := hs'
    obtain ⟨F', nd', r', hr', N'⟩ := S'.ld
    cases hr' with
    | cons e1 hr' =>
    cases hr' with
    | cons e2 hr' =>
    cases hr' with
    | cons e3 hr' =>
    cases hr' with
    | @cons _ _ o4 _ r4 e4 hr' =>
    cases e1; cases e2; cases e3; cases e4
    refine LCg.CompEnd.intro (s₁ := ⟨h, c.g, c.d, tk, c.o⟩) F' N' ((ax, oax) :: r4) (fun p hp => hp) (LCg.Off3.of fun p hp => ?_) (.inr ⟨oax, .head _, hcls, hdat⟩) (ih (i + 1) _ r4 (by omega) ?_ hr')
    · simp only [List.map_cons, List.nodup_cons, List.mem_cons, not_or] at nd'
      obtain ⟨⟨a1, a2, a3, a4⟩, ⟨b1, b2, b3⟩, ⟨c1, c2⟩, _⟩ := nd'
      rcases List.mem_cons.mp hp with rfl | hp
      · exact ⟨Ne.symm a3, Ne.symm b2, Ne.symm c1⟩
      · have hq : p.1 ∈ lr.map (·.1) := by rw [← hr'.keys]; exact List.mem_map_of_mem hp
        exact ⟨fun z => a4 (z ▸ hq), fun z => b3 (z ▸ hq), fun z => c2 (z ▸ hq)⟩
    · rw [etake, List.map_append, List.map_append]
      exact hy.append (.cons hyv .nil)
noncomputable def SrcM (c : Cx) (A : Around) (env : Env) (g : Heap) (L : Addr) (m : Str → Option Value) (ls : List (Str × Option AV)) (x : Str) (f : Int → Int) (elt : Expr) (scope : Scope) (cl' : List (Str × Addr)) (Q : Value → Heap → Prop) (xv : Value) (h₁ : Heap) : Prop := ∃ (ax : Addr) (ns : List Int) (lr : List (Addr × AObj)), xv = .ref ax ∧ ST c g L m ls h₁ ((ax, .lst (ns.map .int)) :: lr) ∧ ns.length ≤ 1000000 ∧
      (∀ e C oC m₂ I oI D oD oax h', e ∈ ns → CO x (.int e) oC m₂ → ST c g L m ls h' ((I, .raw oI) :: (C, .raw oC) :: (D, .raw oD) :: (ax, .raw oax) :: lr) →
        W c A (eval elt (compEnvC scope cl' C env)) h' (fun y h'' => AV.is (.int (f e)) y ∧ ST c g L m ls h'' ((I, .raw oI) :: (C, .raw oC) :: (D, .raw oD) :: (ax, .raw oax) :: lr))) ∧
      ∀ D' h', ST c g L m ls h' ((D', .lst ((ns.map f).map .int)) :: (ax, .lst (ns.map .int)) :: lr) → Q (.ref D') h'
theorem comp_M {scope : Scope} {cl' : List (Str × Addr)} {x : Str} {f : Int → Int} {px' pos : Pos} {elt iter : Expr} {Q : Value → Heap → Prop} (fo : FO K c A env nm L cl g n) (D : ST c g L m ls h l)
    (hclos : closureFor scope env = pure cl') (hcell : ∀ y ∈ scope.names, y.2 ≠ .cell) (hkind : scope.kind = .function)
    (hnames : ∀ y ∈ scope.names, y.2 = .local → scope.names.lookup y.1 = some .local) (hx : scope.names.lookup x = some .local)
    (k : W c A (eval iter env) h (SrcM c A env g L m ls x f elt scope cl' Q))
    (hs : ∀ x, foldedSetIterable iter env x = pure x) : W c A (eval (.ListComp elt [⟨.Name x px', iter, [], 0⟩] scope pos) env) h Q := fun tk => by
  refine LCg.ListComp_U (s := ⟨h, c.g, c.d, tk, c.o⟩) D.ld.fr hclos hcell hkind hnames hx (k.use fun xv h₁ tk₁ q => ?_) hs
  obtain ⟨ax, ns, lr, rfl, S, hz, turn, q⟩ := q
  obtain ⟨F, nd, r, hr, N⟩ := S.ld
  cases hr with
  | @cons _ _ oax _ r e hr =>
  obtain ⟨its, n', rfl, hv⟩ := e
  have hl := hv.length
  rw [List.length_map] at hl
  refine LCg.CompSrc.ledger (s₁ := ⟨h₁, c.g, c.d, tk₁, c.o⟩) fo.hh F N (List.mem_cons_self) (by rw [List.size_toArray, sizeLine_eq, ← hl]; omega) fun h₂ => ?_
  rw [List.size_toArray]
  refine turns_M (oax := PySem.W.listOf its.toArray n') hv rfl ⟨_, rfl⟩ (fun e C oC m₂ I oI D oD h' => turn e C oC m₂ I oI D oD _ h') S.lo (fun ys r2 hy hr2 => ?_) nd its.length 0 [] r rfl .nil hr
  intro D' h3 tk3 F3 N3 o3
  refine ⟨h3, tk3, rfl, q D' h3 ⟨S.lo, F3, ?_, _, .cons ⟨ys, ys.length, rfl, hy⟩ (.cons ⟨its, n', rfl, hv⟩ hr2), N3⟩⟩
  rw [List.map_cons, List.nodup_cons]
  refine ⟨fun hm => ?_, nd⟩
  rw [List.map_cons, ← hr2.keys] at hm
  obtain ⟨q, hq, e⟩ := List.mem_map.mp (show D' ∈ List.map (·.1) ((ax, PySem.W.listOf its.toArray n') :: r2) from hm)
  exact off1_mem o3 q hq e
end
end Mine
namespace Mine
variable {P : LamP}
section
variable {K : Frag} {M : Mc} {c : Cx} {A : Around} {F : Fm} {env : Env} {nm : List (Str × NameKind)} {L : Addr} {cl : List (Str × Addr)} {g h h' : Heap} {n : Nat} {m : Str → Option Value} {own : List (Addr × AObj)} {ω : Wd} {s : St}
theorem Rel.inK (R : Rel P c g L own ω m s h) (X : K.In g) : K.In h := by
  refine (R).use fun ls l h1 h2 S => ?_
  exact S.inK X
theorem opt_ok {I : In} (HI : Sound P K M c I) {e : Option Expr} {k : U → St → Prop} (e1 : optI I F s e k) (f : FR P K M c A F env L g own ω) (R : Rel P c g L own ω m s h) : W c A (evalPart e env) h (Post P c g L own ω m k) := by
  cases e with
  | none => exact p_none (post_same R .of_none e1)
  | some e => exact p_some (HI.ev e1 f R)
theorem cw_G {fa : Addr} {first : List Value} {args : List Expr} {pos : Pos} {Q : Value → Heap → Prop} (X : K.In g) (hk : keepIn K (.ref fa) = true) (hs : noStar args = true) (Xh : K.In h)
    (k0 : args = [] → W c A (call (.ref fa) (first ++ [])) h Q)
    (k : W c A (spliced (backTo pos (starEach args env))) h (fun vs h₁ => K.In h₁ ∧ W c A (call (.ref fa) (first ++ vs)) h₁ Q)) : W c A (callWith pos (.ref fa) first (backTo pos (starEach args env)) []) h Q := by
  cases args with
  | nil => exact cw_K0 Xh hk (k0 rfl)
  | cons e rest =>
    obtain ⟨h1, h2⟩ := noStar_cons hs
    exact cw_K hk k X (star_no h1) (stars_no h2)
theorem cw_B {id : String} {first : List Value} {args : List Expr} {pos : Pos} {Q : Value → Heap → Prop} (hs : noStar args = true)
    (k0 : args = [] → W c A (call (.builtin id) first) h Q)
    (k : W c A (spliced (backTo pos (starEach args env))) h (fun vs h₁ => W c A (call (.builtin id) (first ++ vs)) h₁ Q)) : W c A (callWith pos (.builtin id) first (backTo pos (starEach args env)) []) h Q := by
  cases args with
  | nil => exact cw_b0 (k0 rfl)
  | cons e rest =>
    obtain ⟨h1, h2⟩ := noStar_cons hs
    exact cw_b1 k (star_no h1) (stars_no h2)
theorem cw_T {t : String} {args : List Expr} {pos : Pos} {Q : Value → Heap → Prop} (hs : noStar args = true) (hne : args ≠ [])
    (k : W c A (spliced (backTo pos (starEach args env))) h (fun vs h₁ => W c A (call (.type t) vs) h₁ Q)) : W c A (callWith pos (.type t) [] (backTo pos (starEach args env)) []) h Q := by
  cases args with
  | nil => exact absurd rfl hne
  | cons e rest =>
    obtain ⟨h1, h2⟩ := noStar_cons hs
    exact cw_t1 k (star_no h1) (stars_no h2)
theorem blockOk_get {x : Str} {iter : Expr} {sc : Scope} (hb : blockOk F x iter sc = true) (f : FR P K M c A F env L g own ω) :
    F.cv = none ∧ isSetE iter = false ∧ (∃ cl, FO K c A env F.nm L cl g F.d ∧ CR ω F.cl cl) ∧ sc.kind = .function ∧ (∀ y ∈ sc.names, y.2 ≠ .cell) ∧ (∀ y ∈ sc.names, y.2 = .local → sc.names.lookup y.1 = some .local) ∧ sc.names.lookup x = some .local ∧ (x == ("__debug__" : Str)) = false ∧ okNames sc.names = true ∧
    ∃ cl', closureFor sc env = pure cl' ∧ ∀ y d, (y, NameKind.free) ∈ sc.names → env.cells.lookup y = some d → cl'.lookup y = some d := by
  unfold blockOk at hb
  simp only [Bool.and_eq_true, Bool.not_eq_true'] at hb
  obtain ⟨⟨⟨⟨⟨⟨⟨⟨b2, b3⟩, b4⟩, b5⟩, b6⟩, b7⟩, b8⟩, b9⟩, b10⟩ := hb
  have hcv : F.cv = none := by simpa using b2
  have b4 := eq_of_beq b4
  have b5 := eq_of_beq b5
  obtain ⟨cl, fo', hcr⟩ := f.top hcv
  obtain ⟨cn, cs, a, ccd, he, _⟩ := fo'.env_
  have hcell : ∀ y ∈ sc.names, y.2 ≠ .cell := fun y hy q => by
    rw [List.all_eq_true] at b7
    have := b7 y hy
    rw [q] at this; cases this
  have hnames : ∀ y ∈ sc.names, y.2 = .local → sc.names.lookup y.1 = some .local := fun y hy q => by
    rw [List.all_eq_true] at b8
    have := b8 y hy
    rw [q] at this
    simpa using this
  obtain ⟨cl', hclos, hcl⟩ := closureFor_is (scope := sc) (env := env) fun p hp q => by
    rw [List.all_eq_true] at b9
    have := b9 p hp
    rw [q] at this
    simp only [bne_self_eq_false, Bool.false_or, Option.isSome_iff_exists] at this
    obtain ⟨i, hi⟩ := this
    obtain ⟨d, h1, _⟩ := hcr _ _ hi
    exact ⟨d, by rw [he]; exact h1⟩
  exact ⟨hcv, b3, ⟨cl, fo', hcr⟩, b4, hcell, hnames, b5, b6, b10, cl', hclos, hcl⟩
theorem rowsC_get {I : In} (T : TabOk K M) (HI : Sound P K M c I) {x x' : Str} {iter t : Expr} {sc : Scope} {k : U → St → Prop} (e1 : rowsC I F s x x' iter t sc k) (f : FR P K M c A F env L g own ω) (R : Rel P c g L own ω m s h) :
    x' = x ∧ F.cv = none ∧ isSetE iter = false ∧ (∃ cl, FO K c A env F.nm L cl g F.d ∧ CR ω F.cl cl) ∧ sc.kind = .function ∧ (∀ y ∈ sc.names, y.2 ≠ .cell) ∧ (∀ y ∈ sc.names, y.2 = .local → sc.names.lookup y.1 = some .local) ∧ sc.names.lookup x = some .local ∧ (x == ("__debug__" : Str)) = false ∧
    ∃ cl', closureFor sc env = pure cl' ∧ W c A (eval iter env) h (SrcR c A env g L m sc cl' x t (FinR P c m own ω k)) := by
  unfold rowsC at e1
  split at e1
  · rename_i hb
    rw [Bool.and_eq_true] at hb
    obtain ⟨b1, hb⟩ := hb
    have b1 := eq_of_beq b1
    subst b1
    obtain ⟨hcv, b3, ⟨cl, fo', hcr⟩, b4, hcell, hnames, b5, b6, b10, cl', hclos, hcl⟩ := blockOk_get hb f
    exact ⟨rfl, hcv, b3, ⟨cl, fo', hcr⟩, b4, hcell, hnames, b5, b6, cl', hclos, (HI.ev e1 f R).mono fun xv h₁ p => rows_src T HI f hcv b5 b6 b4 b10 hcl p⟩
  · exact e1.elim
theorem rowsC_ok {I : In} (T : TabOk K M) (HI : Sound P K M c I) {x x' : Str} {iter t : Expr} {sc : Scope} {px px' pos : Pos} {k : U → St → Prop} (e1 : rowsC I F s x x' iter t sc k) (f : FR P K M c A F env L g own ω) (R : Rel P c g L own ω m s h) :
    W c A (eval (.ListComp (.Name x px) [⟨.Name x' px', iter, [t], 0⟩] sc pos) env) h (Post P c g L own ω m k) := by
  obtain ⟨rfl, hcv, b3, ⟨cl, fo', hcr⟩, b4, hcell, hnames, b5, b6, cl', hclos, w⟩ := rowsC_get T HI e1 f R
  refine (R).use fun ls l h1 h2 S => ?_
  refine comp_R fo' S hclos hcell b4 hnames b5 b6 (w.mono fun xv h₁ p => p.mono ?_) (fold_no b3)
  rintro D' vf lr ⟨ω', ls', l', s₁, e', j1, j2, j3, pm, hτ, kk⟩ h' D
  exact (post_rows (own := own) j1 j3 (pairs_rrs hτ) (d := D') ⟨j2, D.perm ((pm.symm).cons _)⟩ kk).ext e'
noncomputable def backIt : Expr × Str × Pos × Pos → Expr
  | (d, y, ap, cp) => .Call (.Attribute d y ap) [] [] cp
noncomputable def GoodIt (e : Expr) : Option (Expr × Str × Pos × Pos) → Prop
  | none => True
  | some v => e = backIt v
theorem viewIt_all : ∀ e, GoodIt e (viewIt e) := by
  intro e
  cases e <;> first | exact True.intro | exact rfl | skip
  rename_i f args kws p
  cases f <;> first | exact True.intro | exact rfl | skip
  cases args <;> first | exact True.intro | exact rfl | skip
  cases kws <;> first | exact True.intro | exact rfl | skip
theorem viewIt_is {e : Expr} {v} (h : viewIt e = some v) : e = backIt v := by
  have := viewIt_all e
  rw [h] at this
  exact this
noncomputable def backR : Str × Pos × Str × Pos × Expr × Expr × Scope × Pos → Expr
  | (x, px, x', px', iter, t, sc, cp) => (Expr.ListComp (.Name x px) [⟨.Name x' px', iter, [t], 0⟩] sc cp)
noncomputable def GoodR (e : Expr) : Option (Str × Pos × Str × Pos × Expr × Expr × Scope × Pos) → Prop
  | none => True
  | some v => e = backR v
theorem viewR_all : ∀ e, GoodR e (viewR e) := by
  intro e
  cases e <;> first | exact True.intro | exact rfl | skip
  rename_i elt gs sc p
  cases elt <;> first | exact True.intro | exact rfl | skip
  cases gs <;> first | exact True.intro | exact rfl | skip
  rename_i g gs
  obtain ⟨target, iter, ifs, async⟩ := g
  cases target <;> first | exact True.intro | exact rfl | skip
  cases ifs <;> first | exact True.intro | exact rfl | skip
  rename_i t ts
  cases ts <;> first | exact True.intro | exact rfl | skip
  cases async <;> first | exact True.intro | exact rfl | skip
  rename_i n
  cases n <;> first | exact True.intro | exact rfl | skip
  cases gs <;> first | exact True.intro | exact rfl | skip
theorem viewR_is {e : Expr} {v} (h : viewR e = some v) : e = backR v := by
  have := viewR_all e
  rw [h] at this
  exact this
noncomputable def backG : Expr × Str × Pos × Str × Pos × Int × Nat × Pos × Pos × Scope × Pos → Expr
  | (elt, x, px, r, rp, n, k0, np, cp', sc, cp) => (Expr.ListComp elt [⟨.Name x px, .Call (.Name r rp) [.Constant (.int n) k0 np] [] cp', [], 0⟩] sc cp)
noncomputable def GoodG (e : Expr) : Option (Expr × Str × Pos × Str × Pos × Int × Nat × Pos × Pos × Scope × Pos) → Prop
  | none => True
  | some v => e = backG v
theorem viewG_all : ∀ e, GoodG e (viewG e) := by
  intro e
  cases e <;> first | exact True.intro | exact rfl | skip
  rename_i elt gs sc p
  cases gs <;> first | exact True.intro | exact rfl | skip
  rename_i g gs
  obtain ⟨target, iter, ifs, async⟩ := g
  cases target <;> first | exact True.intro | exact rfl | skip
  cases iter <;> first | exact True.intro | exact rfl | skip
  rename_i f args kws cp'
  cases f <;> first | exact True.intro | exact rfl | skip
  cases args <;> first | exact True.intro | exact rfl | skip
  rename_i a args
  cases a <;> first | exact True.intro | exact rfl | skip
  rename_i cn k0 np
  cases cn <;> first | exact True.intro | exact rfl | skip
  cases args <;> first | exact True.intro | exact rfl | skip
  cases kws <;> first | exact True.intro | exact rfl | skip
  cases ifs <;> first | exact True.intro | exact rfl | skip
  cases async <;> first | exact True.intro | exact rfl | skip
  rename_i n
  cases n <;> first | exact True.intro | exact rfl | skip
  cases gs <;> first | exact True.intro | exact rfl | skip
theorem viewG_is {e : Expr} {v} (h : viewG e = some v) : e = backG v := by
  have := viewG_all e
  rw [h] at this
  exact this
theorem ev_split {M : Mc} {I : In} {F : Fm} {s : St} {k : U → St → Prop} {G : Expr → Prop}
    (h1 : ∀ i a p, k (.int i) s → G (.Constant (.int i) a p))
    (h2 : ∀ x a p, k (.str x) s → G (.Constant (.str x) a p))
    (h3 : ∀ a p, k .none s → G (.Constant .none a p))
    (h4 : ∀ b a p, k (.bool b) s → G (.Constant (.bool b) a p))
    (h5 : ∀ x p, (bindO (nameI M F s x) fun v => k v s) → G (.Name x p))
    (h6 : ∀ i a p q, k (.int (-i)) s → G (.UnaryOp .USub (.Constant (.int i) a p) q))
    (h7 : ∀ e y p, (match plainBase e with
      | true => I.ev F s e fun v s => bindO (fieldI M s v y) fun u => k u s
      | false => False) → G (.Attribute e y p))
    (h8 : ∀ e a b c p q, (I.ev F s e fun o s => optI I F s a fun a s => optI I F s b fun b s => optI I F s c fun c s => sliceI s o a b c k) → G (.Subscript e (.Slice a b c p) q))
    (h9 : ∀ e i p, (I.ev F s e fun o s => I.ev F s i fun x s => itemK s o x k) → G (.Subscript e i p))
    (h10 : ∀ o x ap args pos, (match plainBase o && noStar args && Nat.blt args.length 20 && Nat.beq ap.endLine pos.line with
      | true => I.ev F s o fun ov s => (match methI M s ov x with
        | some (.fn fa) => I.sp F s args fun vs s => I.ca F.d s fa (ov :: vs) k
        | some (.bm m) => I.sp F s args fun vs s => bmI m s ov vs k
        | none => False)
      | false => False) → G (.Call (.Attribute o x ap) args [] pos))
    (h11 : ∀ x p args pos, (match noStar args, bltI M F x with
      | true, some b => I.sp F s args fun vs s => btI b s vs k
      | true, none => (match F.cv, F.nm.lookup x with
        | none, some .globalImplicit => (match M.T.gl.lookup x with
          | some (.glob a) => I.sp F s args fun vs s => I.ca F.d s a vs k
          | _ => False)
        | _, _ => (match nameI M F s x, args, F.d with
          | some .lam, [_], _ + 1 => I.sp F s args fun vs s => (match vs with
            | [.int i] => k (.bool (decide (0 < i))) s
            | _ => False)
          | _, _, _ => False))
      | _, _ => False) → G (.Call (.Name x p) args [] pos))
    (h12 : ∀ e op r p, (match isSetE r with
      | false => I.ev F s e fun a s => I.ev F s r fun b s => bindO (cmpI s op a b) fun c => k (.bool c) s
      | true => False) → G (.Compare e [op] [r] p))
    (h13 : ∀ e op r p, (I.ev F s e fun a s => I.ev F s r fun b s => binI s op a b k) → G (.BinOp e op r p))
    (h14 : ∀ t a b p, (I.te F s t fun c s => br c (I.ev F s a k) (I.ev F s b k)) → G (.IfExp t a b p))
    (h15 : ∀ es p, (match noStar es with
      | true => I.sp F s es fun vs s => (match fits vs.length with
        | true => newK s (.lst vs) k
        | false => False)
      | false => False) → G (.List es p))
    (h16 : ∀ es a p, (match noStar es with
      | true => I.sp F s es fun vs s => (match fits vs.length with
        | true => bindO (intsU vs) fun is => k (.tup is) s
        | false => False)
      | false => False) → G (.Tuple es a p))
    (h17 : ∀ p, newK s (.idict []) k → G (.Dict [] [] p))
    (h18 : ∀ x p x' p' iter t sc q, (match viewIt iter with
        | some (d, y, ap, cp) => valsC I F s x x' d y ap cp t sc k
        | none => rowsC I F s x x' iter t sc k) → G (.ListComp (.Name x p) [⟨.Name x' p', iter, [t], 0⟩] sc q)) :
    ∀ e, (stp M I).ev F s e k → G e := by
  intro e e1
  cases e <;> first | exact False.elim e1 | exact h5 _ _ e1 | exact h7 _ _ _ e1 | exact h13 _ _ _ _ e1 | exact h14 _ _ _ _ e1 | exact h15 _ _ e1 | exact h16 _ _ _ e1 | skip
  · rename_i op x p
    cases op <;> first | exact False.elim e1 | skip
    cases x <;> first | exact False.elim e1 | skip
    rename_i c a q
    cases c <;> first | exact False.elim e1 | exact h6 _ _ _ _ e1 | skip
  · rename_i ks vs p
    cases ks <;> first | exact False.elim e1 | skip
    cases vs <;> first | exact False.elim e1 | exact h17 _ e1 | skip
  · rename_i elt gs sc p
    have e2 : (match viewR (.ListComp elt gs sc p) with
      | some (x, _, x', _, iter, t, sc, _) => (match viewIt iter with
        | some (d, y, ap, cp) => valsC I F s x x' d y ap cp t sc k
        | none => rowsC I F s x x' iter t sc k)
      | none => False) := e1
    cases hv : viewR (.ListComp elt gs sc p) with
    | none => rw [hv] at e2; exact e2.elim
    | some v =>
      rw [hv] at e2
      rw [viewR_is hv]
      exact h18 _ _ _ _ _ _ _ _ e2
  · rename_i l ops cs p
    cases ops <;> first | exact False.elim e1 | skip
    rename_i op ops
    cases ops <;> first | exact False.elim e1 | skip
    cases cs <;> first | exact False.elim e1 | skip
    rename_i r cs
    cases cs <;> first | exact False.elim e1 | exact h12 _ _ _ _ e1 | skip
  · rename_i f args kws p
    cases f <;> first | exact False.elim e1 | skip
    all_goals cases kws <;> first | exact False.elim e1 | exact h10 _ _ _ _ _ e1 | exact h11 _ _ _ _ e1 | skip
  · rename_i c a p
    cases c <;> first | exact False.elim e1 | exact h1 _ _ _ e1 | exact h2 _ _ _ e1 | exact h3 _ _ e1 | exact h4 _ _ _ e1 | skip
  · rename_i e i p
    cases i <;> first | exact False.elim e1 | exact h8 _ _ _ _ _ _ e1 | exact h9 _ _ _ e1 | skip
theorem ev_ok {I : In} (HI : Sound P K M c I) (T : TabOk K M) (LM : LamOk P K c) {e : Expr} {k : U → St → Prop} (e1 : (stp M I).ev F s e k) (f : FR P K M c A F env L g own ω) (R : Rel P c g L own ω m s h) : W c A (eval e env) h (Post P c g L own ω m k) := by
  obtain ⟨env₀, nm₀, cl₀, fo⟩ := f.fo
  have X := fo.X
  revert e1
  refine ev_split (G := fun e => W c A (eval e env) h (Post P c g L own ω m k)) ?_ ?_ ?_ ?_ ?_ ?_ ?_ ?_ ?_ ?_ ?_ ?_ ?_ ?_ ?_ ?_ ?_ ?_ e
  · intro i a p e1
    exact l_int fun t => post_same R .of_int e1
  · intro x a p e1
    exact l_str fun t => post_same R .of_str e1
  · intro a p e1
    exact l_none (post_same R .of_none e1)
  · intro b a p e1
    exact l_bool (post_same R .of_bool e1)
  · intro x p e1
    refine bindO_use e1 fun v hv e1 => ?_
    exact f.name .refl (fun _ h => h) R hv fun y hy => post_same R hy e1
  · intro i a p q e1
    exact l_neg fun t => post_same R .of_int e1
  · intro e y p e1
    split at e1
    · rename_i hb
      refine e_attrG hb ((HI.ev e1 f R).mono ?_)
      intro x h₁ pp; refine Post.use pp fun ω₁ v s₁ e₁ R₁ hv e1 => ?_
      refine bindO_use e1 fun u hu e1 => ?_
      exact fieldI_ok T X R₁ hv hu fun z hz => (post_same R₁ hz e1).ext e₁
    · exact e1.elim
  · intro e a b c p q e1
    refine e_sub ((HI.ev e1 f R).mono ?_)
    intro x h₁ pp; refine Post.use pp fun ω₁ v s₁ e₁ R₁ hv e1 => ?_
    have f₁ := f.ext e₁
    refine e_slice ((opt_ok HI e1 f₁ R₁).mono ?_)
    intro xa h₂ pp; refine Post.use pp fun ω₂ va s₂ e₂ R₂ hva e1 => ?_
    have f₂ := f₁.ext e₂
    refine (opt_ok HI e1 f₂ R₂).mono ?_
    intro xb h₃ pp; refine Post.use pp fun ω₃ vb s₃ e₃ R₃ hvb e1 => ?_
    have f₃ := f₂.ext e₃
    refine (opt_ok HI e1 f₃ R₃).mono ?_
    intro xc h₄ pp; refine Post.use pp fun ω₄ vc s₄ e₄ R₄ hvc e1 => ?_
    intro sl h₅ up
    have R₅ := R₄.push (h' := h₅) (d := sl) fun ls l S => up _ _ _ _ _ S
    refine (sliceI_ok R₅ (hv.mono (e₂.trans (e₃.trans e₄))) (hva.mono (e₃.trans e₄)) (hvb.mono e₄) hvc e1).mono fun z h₆ p => ?_
    exact p.ext (e₁.trans (e₂.trans (e₃.trans e₄)))
  · intro e i p e1
    refine e_sub ((HI.ev e1 f R).mono ?_)
    intro x h₁ pp; refine Post.use pp fun ω₁ v s₁ e₁ R₁ hv e1 => ?_
    refine (HI.ev e1 (f.ext e₁) R₁).mono ?_
    intro y h₂ pp; refine Post.use pp fun ω₂ w s₂ e₂ R₂ hw e1 => ?_
    obtain ⟨u, hu, e1⟩ := itemK_is e1
    exact itemI_ok R₂ (hv.mono e₂) hw hu fun z hz => (post_same R₂ hz e1).ext (e₁.trans e₂)
  · intro o y ap args pos e1
    split at e1
    · rename_i hb
      simp only [Bool.and_eq_true] at hb
      obtain ⟨⟨⟨b1, b2⟩, b3⟩, b4⟩ := hb
      have b3 := Nat.le_of_ble_eq_true b3
      have b4 := Nat.eq_of_beq_eq_true b4
      refine e_mcallG b1 b2 b3 b4 ((HI.ev e1 f R).mono ?_)
      intro x h₁ pp; refine Post.use pp fun ω₁ v s₁ e₁ R₁ hv e1 => ?_
      intro pl
      have f₁ := f.ext e₁
      split at e1
      · rename_i fa hm
        refine methI_fn T X R₁ hv hm fun hk => ?_
        refine cw_G X hk b2 (R₁.inK X) (fun he => ?_) ((HI.sp e1 b2 f₁ R₁ _).mono ?_)
        · subst he
          exact (HI.ca (HI.sp0 e1) fo R₁ (.cons hv .nil)).mono fun z h₂ p => p.ext e₁
        · rintro vs h₂ ⟨ω₂, us, s₂, e₂, R₂, hus, e1⟩
          exact ⟨R₂.inK X, (HI.ca e1 fo R₂ (.cons (hv.mono e₂) hus)).mono fun z h₃ p => p.ext (e₁.trans e₂)⟩
      · rename_i b hm
        refine methI_bm R₁ hv hm ?_
        have key : ∀ {id : String} (pos : Pos), bmV b = .builtin id → W c A (callWith pos (bmV b) [x] (backTo pos (starEach _ env)) []) h₁ (Post P c g L own ω m k) := fun {id} pos hid => by
          rw [hid]
          refine cw_B b2 (fun he => ?_) ((HI.sp e1 b2 f₁ R₁ _).mono ?_)
          · subst he
            rw [← hid]
            exact (bmI_ok fo R₁ hv .nil (HI.sp0 e1)).mono fun z h₂ p => p.ext e₁
          · rintro vs h₂ ⟨ω₂, us, s₂, e₂, R₂, hus, e1⟩
            rw [← hid]
            exact (bmI_ok fo R₂ (hv.mono e₂) hus e1).mono fun z h₃ p => p.ext (e₁.trans e₂)
        cases b <;> exact key _ rfl
      · exact e1.elim
    · exact e1.elim
  · intro y p args pos e1
    split at e1
    · rename_i b b2 hb
      refine e_call (f.blt R hb ?_) rfl
      have key : ∀ {id : String} (pos : Pos), btV b = .builtin id → W c A (callWith pos (btV b) [] (backTo pos (starEach _ env)) []) h (Post P c g L own ω m k) := fun {id} pos hid => by
        rw [hid]
        refine cw_B b2 (fun he => ?_) ((HI.sp e1 b2 f R _).mono ?_)
        · subst he
          rw [← hid]
          exact btI_ok fo R .nil (HI.sp0 e1)
        · rintro vs h₂ ⟨ω₂, us, s₂, e₂, R₂, hus, e1⟩
          rw [← hid]
          exact (btI_ok fo R₂ hus e1).mono fun z h₃ p => p.ext e₂
      have keyT : ∀ {id : String} (pos : Pos), btV b = .type id → (∀ s k, ¬ btI b s [] k) → W c A (callWith pos (btV b) [] (backTo pos (starEach _ env)) []) h (Post P c g L own ω m k) := fun {id} pos hid hno => by
        rw [hid]
        refine cw_T b2 (fun he => ?_) ((HI.sp e1 b2 f R _).mono ?_)
        · subst he
          exact hno _ _ (HI.sp0 e1)
        · rintro vs h₂ ⟨ω₂, us, s₂, e₂, R₂, hus, e1⟩
          rw [← hid]
          exact (btI_ok fo R₂ hus e1).mono fun z h₃ p => p.ext e₂
      cases b <;> first | exact key _ rfl | exact keyT _ rfl fun _ _ h => h
    · rename_i b2 hb
      split at e1
      · rename_i hcv hg
        split at e1
        · rename_i a ha
          have hk : keepIn K (.ref a) = true := by
            rcases T.gl _ _ ha with ⟨a', q, _, q2⟩ | ⟨i, t, q, _⟩
            · cases q; exact q2
            · cases q
          refine e_call (f.name .refl (fun _ h => h) R (v := .glob a) (by unfold nameI; rw [hcv]; dsimp only; rw [hg]; exact ha) fun y hy => ?_) rfl
          have := hy.glob
          subst this
          refine cw_G X hk b2 (R.inK X) (fun he => ?_) ((HI.sp e1 b2 f R _).mono ?_)
          · subst he
            exact HI.ca (HI.sp0 e1) fo R .nil
          · rintro vs h₂ ⟨ω₂, us, s₂, e₂, R₂, hus, e1⟩
            exact ⟨R₂.inK X, (HI.ca e1 fo R₂ hus).mono fun z h₃ p => p.ext e₂⟩
        · exact e1.elim
      · split at e1
        · rename_i a d hn hd
          refine e_call (f.name .refl (fun _ h => h) R hn fun y hy => ?_) rfl
          obtain ⟨al, ol, c', oc, h1, h1', h2, rfl⟩ := hy.lam
          refine (R).use fun ls l h3 h4 S => ?_
          obtain ⟨b3, _⟩ := noStar_cons b2
          rw [hd] at fo
          refine LM fo S (List.mem_append_right _ (List.mem_append_left _ h1)) h2 b3 ((HI.sp e1 b2 f R _).mono ?_)
          intro vs h₂ pp; refine PostL.use pp fun ω₂ us s₂ e₂ R₂ hus e1 => ?_
          split at e1
          · obtain ⟨v, rfl, hv⟩ := hus.one_is
            obtain ⟨t, rfl⟩ := hv.int
            refine (R₂).use fun ls₂ l₂ k1 k2 S₂ => ?_
            exact ⟨_, t, ls₂, _, rfl, S₂, List.mem_append_right _ (List.mem_append_left _ (e₂.2 _ h1)), List.mem_append_right _ (List.mem_append_left _ (e₂.2 _ h1')), fun h₃ S₃ => (post_same ⟨ls₂, l₂, k1, k2, S₃⟩ .of_bool e1).ext e₂⟩
          · exact e1.elim
        · exact e1.elim
    · exact e1.elim
  · intro e op r p e1
    split at e1
    · rename_i hr
      refine e_cmp ((HI.ev e1 f R).mono ?_) (marks_no hr)
      intro x h₁ pp; refine Post.use pp fun ω₁ v s₁ e₁ R₁ hv e1 => ?_
      refine (HI.ev e1 (f.ext e₁) R₁).mono ?_
      intro y h₂ pp; refine Post.use pp fun ω₂ w s₂ e₂ R₂ hw e1 => ?_
      refine bindO_use e1 fun u hu e1 => ?_
      exact cmpI_ok fo R₂ (hv.mono e₂) hw hu ((post_same R₂ .of_bool e1).ext (e₁.trans e₂))
    · exact e1.elim
  · intro e op r p e1
    refine e_bin ((HI.ev e1 f R).mono ?_)
    intro x h₁ pp; refine Post.use pp fun ω₁ v s₁ e₁ R₁ hv e1 => ?_
    refine (HI.ev e1 (f.ext e₁) R₁).mono ?_
    intro y h₂ pp; refine Post.use pp fun ω₂ w s₂ e₂ R₂ hw e1 => ?_
    exact (binI_ok R₂ (hv.mono e₂) hw e1).mono fun z h₃ p => p.ext (e₁.trans e₂)
  · intro t a b p e1
    refine e_ifexp ((HI.te e1 f R _ (fun _ => rfl)).mono ?_)
    intro b h₁ pp; refine PostB.use pp fun ω₁ s₁ e₁ R₁ e1 => ?_
    have e1 := br_is e1
    cases b with
    | true => exact (HI.ev e1 (f.ext e₁) R₁).mono fun z h₂ p => p.ext e₁
    | false => exact (HI.ev e1 (f.ext e₁) R₁).mono fun z h₂ p => p.ext e₁
  · intro es p e1
    split at e1
    · rename_i hs
      refine e_list ((HI.sp e1 hs f R _).mono ?_)
      intro vs h₁ pp; refine PostL.use pp fun ω₁ us s₁ e₁ R₁ hus e1 => ?_
      split at e1
      · rename_i hz
        have hz := fits_get hz
        refine (R₁).use fun ls l h1 h2 S => ?_
        obtain ⟨as, q1, q2⟩ := hus.split
        exact n_lst S q2 (by rw [← q1.len]; omega) fun d h' S' => (post_new h1 h2 (.lst q1) S' (newK_is e1)).ext e₁
      · exact e1.elim
    · exact e1.elim
  · intro es a p e1
    split at e1
    · rename_i hs
      refine e_tup ((HI.sp e1 hs f R _).mono ?_)
      intro vs h₁ pp; refine PostL.use pp fun ω₁ us s₁ e₁ R₁ hus e1 => ?_
      split at e1
      · rename_i hz
        have hz := fits_get hz
        refine bindO_use e1 fun is his e2 => ?_
        clear e1
        refine (R₁).use fun ls l h1 h2 S => ?_
        obtain ⟨as, q1, q2⟩ := hus.split
        have := intsU_is his; subst this
        have := q1.nums; subst this
        exact n_tup S q2 (by simp at hz ⊢; omega) fun d h' S' => (post_tup h1 h2 S' e2).ext e₁
      · exact e1.elim
    · exact e1.elim
  · intro p e1
    refine (R).use fun ls l h1 h2 S => ?_
    exact d_new S fun d h' S' => post_new h1 h2 (.idict .nil) S' (newK_is e1)
  · intro x p x' p' iter t sc q e1
    split at e1
    · rename_i d y ap cp hv
      have := viewIt_is hv
      subst this
      exact vals_ok T HI e1 f R fun hb => blockOk_get hb f
    · exact rowsC_ok T HI e1 f R
end
end Mine
namespace Mine
variable {P : LamP}
section
variable {K : Frag} {M : Mc} {c : Cx} {A : Around} {F : Fm} {env : Env} {nm : List (Str × NameKind)} {L : Addr} {cl : List (Str × Addr)} {g h h' : Heap} {n : Nat} {m : Str → Option Value} {own : List (Addr × AObj)} {ω : Wd} {s : St}
theorem bool_post {k : Bool → St → Prop} {x : Value} {h₁ : Heap} (p : Post P c g L own ω m (fun v s => (match v with
      | .bool b => k b s
      | _ => False)) x h₁) : W c A (truthy x) h₁ (PostB P c g L own ω m k) := by
  obtain ⟨ω₁, v, s₁, e₁, R₁, hv, e1⟩ := p
  split at e1
  · have := hv.bool
    subst this
    exact tr_bool ⟨ω₁, s₁, e₁, R₁, e1⟩
  · exact e1.elim
theorem te_split {M : Mc} {I : In} {F : Fm} {s : St} {k : Bool → St → Prop} {G : Expr → Prop}
    (h1 : ∀ e p, (I.te F s e fun b s => k (!b) s) → G (.UnaryOp .Not e p))
    (h2 : ∀ p, k true s → G (.BoolOp .And [] p))
    (h3 : ∀ p, k false s → G (.BoolOp .Or [] p))
    (h4 : ∀ e r p, (I.te F s e fun b s => br b (I.te F s (.BoolOp .And r p) k) (k false s)) → G (.BoolOp .And (e :: r) p))
    (h5 : ∀ e r p, (I.te F s e fun b s => br b (k true s) (I.te F s (.BoolOp .Or r p) k)) → G (.BoolOp .Or (e :: r) p))
    (h6 : ∀ e op r p, (match isSetE r with
      | false => I.ev F s e fun a s => I.ev F s r fun b s => bindO (cmpI s op a b) fun c => k c s
      | true => False) → G (.Compare e [op] [r] p))
    (h7 : ∀ x p, (I.ev F s (.Name x p) fun v s => (match v with
      | .bool b => k b s
      | _ => False)) → G (.Name x p))
    (h8 : ∀ o y p, (I.ev F s (.Attribute o y p) fun v s => (match v with
      | .bool b => k b s
      | _ => False)) → G (.Attribute o y p))
    (h9 : ∀ f a p, (I.ev F s (.Call f a [] p) fun v s => (match v with
      | .bool b => k b s
      | _ => False)) → G (.Call f a [] p)) : ∀ e, (stp M I).te F s e k → G e := by
  intro e e1
  cases e <;> first | exact False.elim e1 | exact h7 _ _ e1 | exact h8 _ _ _ e1 | skip
  · rename_i op l p
    cases op <;> cases l <;> first | exact h2 _ e1 | exact h3 _ e1 | exact h4 _ _ _ e1 | exact h5 _ _ _ e1
  · rename_i op e p
    cases op <;> first | exact False.elim e1 | exact h1 _ _ e1
  · rename_i l ops cs p
    cases ops <;> first | exact False.elim e1 | skip
    rename_i op ops
    cases ops <;> first | exact False.elim e1 | skip
    cases cs <;> first | exact False.elim e1 | skip
    rename_i r cs
    cases cs <;> first | exact False.elim e1 | exact h6 _ _ _ _ e1
  · rename_i f a kw p
    cases kw <;> first | exact False.elim e1 | exact h9 _ _ _ e1
theorem te_ok {I : In} (HI : Sound P K M c I) {e : Expr} {k : Bool → St → Prop} (e1 : (stp M I).te F s e k) (f : FR P K M c A F env L g own ω) (R : Rel P c g L own ω m s h) (whole : Sem Value) (hw : (∀ op l p, e ≠ .BoolOp op l p) → whole = eval e env) :
    W c A (isTrue e env whole) h (PostB P c g L own ω m k) := by
  obtain ⟨env₀, nm₀, cl₀, fo⟩ := f.fo
  revert e1 hw
  refine fun e1 hw => te_split (M := M) (I := I) (F := F) (s := s) (k := k) (G := fun e => ((∀ op l p, e ≠ .BoolOp op l p) → whole = eval e env) → W c A (isTrue e env whole) h (PostB P c g L own ω m k)) ?_ ?_ ?_ ?_ ?_ ?_ ?_ ?_ ?_ e e1 hw
  · intro e p e1 hw
    refine t_not ((HI.te e1 f R _ (fun _ => rfl)).mono ?_)
    intro b h₁ pp; refine PostB.use pp fun ω₁ s₁ e₁ R₁ e1 => ?_
    exact ⟨ω₁, s₁, e₁, R₁, e1⟩
  · intro p e1 hw
    exact t_and0 ⟨ω, s, .refl, R, e1⟩
  · intro p e1 hw
    exact t_or0 ⟨ω, s, .refl, R, e1⟩
  · intro e r p e1 hw
    refine t_and ((HI.te e1 f R _ (fun _ => rfl)).mono ?_)
    intro b h₁ pp; refine PostB.use pp fun ω₁ s₁ e₁ R₁ e1 => ?_
    have e1 := br_is e1
    cases b with
    | true => exact (HI.te e1 (f.ext e₁) R₁ _ (fun q => absurd rfl (q _ _ _))).mono fun z h₂ p => p.ext e₁
    | false => exact ⟨ω₁, s₁, e₁, R₁, e1⟩
  · intro e r p e1 hw
    refine t_or ((HI.te e1 f R _ (fun _ => rfl)).mono ?_)
    intro b h₁ pp; refine PostB.use pp fun ω₁ s₁ e₁ R₁ e1 => ?_
    have e1 := br_is e1
    cases b with
    | true => exact ⟨ω₁, s₁, e₁, R₁, e1⟩
    | false => exact (HI.te e1 (f.ext e₁) R₁ _ (fun q => absurd rfl (q _ _ _))).mono fun z h₂ p => p.ext e₁
  · intro e op r p e1 hw
    split at e1
    · rename_i hr
      refine t_cmp ((HI.ev e1 f R).mono ?_) (marks_no hr)
      intro x h₁ pp; refine Post.use pp fun ω₁ v s₁ e₁ R₁ hv e1 => ?_
      refine (HI.ev e1 (f.ext e₁) R₁).mono ?_
      intro y h₂ pp; refine Post.use pp fun ω₂ w s₂ e₂ R₂ hw' e1 => ?_
      refine bindO_use e1 fun u hu e1 => ?_
      exact cmpI_ok fo R₂ (hv.mono e₂) hw' hu (tr_bool ⟨ω₂, s₂, e₁.trans e₂, R₂, e1⟩)
    · exact e1.elim
  · intro x p e1 hw
    rw [hw (fun _ _ _ q => by cases q)]
    exact t_plain ((HI.ev e1 f R).mono fun x h₁ p => bool_post p) rfl
  · intro o y p e1 hw
    rw [hw (fun _ _ _ q => by cases q)]
    exact t_plain ((HI.ev e1 f R).mono fun x h₁ p => bool_post p) rfl
  · intro f' a p e1 hw
    rw [hw (fun _ _ _ q => by cases q)]
    exact t_plain ((HI.ev e1 f R).mono fun x h₁ p => bool_post p) rfl
theorem sp_ok {I : In} (HI : Sound P K M c I) {es : List Expr} {k : List U → St → Prop} (e1 : (stp M I).sp F s es k) (hs : noStar es = true) (f : FR P K M c A F env L g own ω) (R : Rel P c g L own ω m s h) (pos : Pos) :
    W c A (spliced (backTo pos (starEach es env))) h (PostL P c g L own ω m k) := by
  unfold stp at e1
  dsimp only at e1
  split at e1
  · exact sp_nil ⟨ω, [], s, .refl, R, .nil, e1⟩
  · obtain ⟨h1, h2⟩ := noStar_cons hs
    refine sp_consG h1 ((HI.ev e1 f R).mono ?_)
    intro x h₁ pp; refine Post.use pp fun ω₁ v s₁ e₁ R₁ hv e1 => ?_
    refine (HI.sp e1 h2 (f.ext e₁) R₁ pos).mono ?_
    intro vs h₂ pp; refine PostL.use pp fun ω₂ us s₂ e₂ R₂ hus e1 => ?_
    exact ⟨ω₂, v :: us, s₂, e₁.trans e₂, R₂, .cons (hv.mono e₂) hus, e1⟩
theorem as_sub {o i : Expr} {pos : Pos} {v : Value} {Q : Unit → Heap → Prop} (k : W c A (eval o env) h (fun ov h₁ => W c A (eval i env) h₁ (fun iv h₂ => W c A (setItem ov iv v) h₂ Q))) : W c A (assign (.Subscript o i pos) env v) h Q := fun tk => by
  exact kas_sub (k.use fun ov h' tk' q => q.use fun iv h2 tk2 q2 => q2.use fun _ h3 tk3 q3 => ⟨_, _, rfl, q3⟩)
theorem as_lst {elts : List Expr} {x1 : Nat} {pos : Pos} {t : Addr} {vs : List AV} {ls : List (Str × Option AV)} {l : List (Addr × AObj)} {Q : Unit → Heap → Prop} (f : FO K c A env nm L cl g n) (D : ST c g L m ls h l) (hm : (t, .lst vs) ∈ l) (hn : (assignEach elts env).length = vs.length) (hstar : (assignEach elts env).findIdx? (·.1) = none)
    (q : ∀ ws h', AVs vs ws → ST c g L m ls h' l → W c A (assignInOrder ((assignEach elts env).map (·.2)) ws) h' Q) : W c A (assign (.Tuple elts x1 pos) env (.ref t)) h Q := fun tk => by
  rw [PyProof.Rows.assign_Tuple]
  refine wpAny_bind (wpAny_standAt ?_)
  unfold unpack
  rw [hn, hstar]
  exact wpAny_bind (wpAny_holding ((un_lst f D hm rfl fun ws h' hw S => q ws h' hw S).use fun a h' tk' q => q tk'))
theorem AVs.of_split {us : List U} {as : List AV} {ws : List Value} (h : URs P ω us as) (k : AVs as ws) : VIs P ω us ws := by
  induction h generalizing ws with
  | nil => cases k; exact .nil
  | cons q _ ih => cases k with | cons a b => exact .cons ⟨_, q, a⟩ (ih b)
theorem seq_ok {I : In} (HI : Sound P K M c I) (hcv : F.cv = none) : ∀ {ts : List Expr} {us : List U} {vs : List Value} {ω : Wd} {m : Str → Option Value} {s : St} {h : Heap} {k : St → Prop}, noStar ts = true → seqAs I F ts us s k → FR P K M c A F env L g own ω → Rel P c g L own ω m s h → VIs P ω us vs →
    W c A (assignInOrder ((assignEach ts env).map (·.2)) vs) h (fun _ => PostA P c g L own ω k)
  | [], [], vs, ω, m, s, h, k, _, e, f, R, hv => by
    have := hv.nil_is; subst this
    exact in_nil ⟨ω, m, s, .refl, R, e⟩
  | t :: ts, u :: us, vs, ω, m, s, h, k, hs, e, f, R, hv => by
    obtain ⟨h1, h2⟩ := noStar_cons hs
    cases hv with
    | cons hx hr =>
    rw [as_no h1]
    unfold seqAs at e
    refine in_cons ((HI.as e hcv f R hx).mono ?_)
    rintro _ h₁ ⟨ω₁, m₁, s₁, e₁, R₁, e⟩
    refine (seq_ok HI hcv h2 e (f.ext e₁) R₁ (hr.mono e₁)).mono fun _ h₂ p => p.ext e₁
  | [], _ :: _, _, _, _, _, _, _, _, e, _, _, _ => by unfold seqAs at e; exact e.elim
  | _ :: _, [], _, _, _, _, _, _, _, e, _, _, _ => by unfold seqAs at e; exact e.elim
theorem unpack_ok {I : In} (HI : Sound P K M c I) (hcv : F.cv = none) {ts : List Expr} {k1 : Nat} {pos : Pos} {v : U} {x : Value} {us : List U} {k : St → Prop} (hs : noStar ts = true) (hi : itemsI s v = some us) (hl : ts.length = us.length) (e : seqAs I F ts us s k) (f : FR P K M c A F env L g own ω) (R : Rel P c g L own ω m s h) (hv : VI P ω v x) :
    W c A (assign (.Tuple ts k1 pos) env x) h (fun _ => PostA P c g L own ω k) := by
  obtain ⟨cl, fo, _⟩ := f.top hcv
  unfold itemsI at hi
  refine (R).use fun ls l h1 h2 S => ?_
  split at hi
  · rename_i is
    cases hi
    obtain ⟨a, ha, rfl⟩ := hv.tup
    refine as_tup fo S (List.mem_append_right _ (List.mem_append_left _ ha)) (by rw [ases_len hs, hl]; simp) (ases_star hs) fun ws h' hw S' => ?_
    exact seq_ok HI hcv hs e f ⟨ls, l, h1, h2, S'⟩ (AVs.of_split (URs.of_ints is) hw)
  · split at hi
    · rename_i i vs hvs
      split at hi
      · cases hi
        obtain ⟨a, ha, rfl⟩ := hv.loc
        obtain ⟨a1, x1, p1, p2, p3⟩ := h2.at hvs
        rw [ha] at p1; cases p1
        cases p3 with
        | lst p4 =>
        refine as_lst fo S (List.mem_append_left _ p2) (by rw [ases_len hs, hl, p4.len]) (ases_star hs) fun ws h' hw S' => ?_
        exact seq_ok HI hcv hs e f ⟨ls, l, h1, h2, S'⟩ (AVs.of_split p4 hw)
      · cases hi
    · cases hi
  · cases hi
theorem as_split {M : Mc} {I : In} {F : Fm} {s : St} {v : U} {k : St → Prop} {G : Expr → Prop}
    (h1 : ∀ x p, storeI F s x v k → G (.Name x p))
    (h2 : ∀ o y p, (I.ev F s o fun ov s => setI M s ov y v k) → G (.Attribute o y p))
    (h3 : ∀ o i p, (I.ev F s o fun ov s => I.ev F s i fun x s => putI s ov x v k) → G (.Subscript o i p))
    (h4 : ∀ ts n p, (match noStar ts with
      | true => bindO (itemsI s v) fun vs => (match Nat.beq ts.length vs.length with
        | true => seqAs I F ts vs s k
        | false => False)
      | false => False) → G (.Tuple ts n p)) : ∀ t, (stp M I).as F s t v k → G t := by
  intro t e
  cases t <;> first | exact False.elim e | exact h1 _ _ e | exact h2 _ _ _ e | exact h3 _ _ _ e | exact h4 _ _ _ e
theorem as_ok {I : In} (HI : Sound P K M c I) (T : TabOk K M) {t : Expr} {v : U} {x : Value} {k : St → Prop} (e1 : (stp M I).as F s t v k) (hcv : F.cv = none) (f : FR P K M c A F env L g own ω) (R : Rel P c g L own ω m s h) (hv : VI P ω v x) :
    W c A (assign t env x) h (fun _ => PostA P c g L own ω k) := by
  obtain ⟨cl, fo, hcr⟩ := f.top hcv
  have X := fo.X
  revert e1
  refine as_split (G := fun t => W c A (assign t env x) h (fun _ => PostA P c g L own ω k)) ?_ ?_ ?_ ?_ t
  · intro y p e1
    exact as_name ((storeI_ok fo hcr R hv e1).mono fun _ h' ⟨m', s', R', kk⟩ => ⟨ω, m', s', .refl, R', kk⟩)
  · intro o y p e1
    refine as_attr ((HI.ev e1 f R).mono ?_)
    intro y h₁ pp; refine Post.use pp fun ω₁ u s₁ e₁ R₁ hu e1 => ?_
    exact (setI_ok T X R₁ hu (hv.mono e₁) e1).mono fun _ h' ⟨s', R', kk⟩ => ⟨ω₁, m, s', e₁, R', kk⟩
  · intro o i p e1
    refine as_sub ((HI.ev e1 f R).mono ?_)
    intro y h₁ pp; refine Post.use pp fun ω₁ u s₁ e₁ R₁ hu e1 => ?_
    refine (HI.ev e1 (f.ext e₁) R₁).mono ?_
    intro z h₂ pp; refine Post.use pp fun ω₂ w s₂ e₂ R₂ hw e1 => ?_
    exact (putI_ok R₂ (hu.mono e₂) hw (hv.mono (e₁.trans e₂)) e1).mono fun _ h' ⟨s', R', kk⟩ => ⟨ω₂, m, s', e₁.trans e₂, R', kk⟩
  · intro ts n p e1
    split at e1
    · rename_i hs
      refine bindO_use e1 fun us hi e1 => ?_
      split at e1
      · rename_i hl
        exact unpack_ok HI hcv hs hi (Nat.eq_of_beq_eq_true hl) e1 f R hv
      · exact e1.elim
    · exact e1.elim
end
end Mine
namespace Mine
variable {P : LamP}
section
variable {K : Frag} {M : Mc} {c : Cx} {A : Around} {F : Fm} {env : Env} {nm : List (Str × NameKind)} {L : Addr} {cl : List (Str × Addr)} {g h h' : Heap} {n : Nat} {m : Str → Option Value} {own : List (Addr × AObj)} {ω : Wd} {s : St}
theorem xs_ok {I : In} (HI : Sound P K M c I) {l : List Stmt} {k : Fl → St → Prop} (e1 : (stp M I).xs F s l k) (hcv : F.cv = none) (f : FR P K M c A F env L g own ω) (R : Rel P c g L own ω m s h) : W c A (execs l env) h (PostF P c g L own ω k) := by
  unfold stp at e1
  dsimp only at e1
  split at e1
  · exact execs_nil ⟨ω, m, s, .next, .refl, R, trivial, e1⟩
  · refine execs_cons ((HI.ex e1 hcv f R).mono ?_)
    rintro fl h₁ ⟨ω₁, m₁, s₁, fl', e₁, R₁, hfl, e1⟩
    cases fl <;> cases fl' <;> first
      | exact hfl.elim
      | exact (HI.xs e1 hcv (f.ext e₁) R₁).mono fun z h₂ p => p.ext e₁
      | exact ⟨ω₁, m₁, s₁, _, e₁, R₁, hfl, e1⟩
theorem PostA.pop {p : Addr × AObj} {k : St → Prop} (q : PostA P c g L (p :: own) ω k h) : PostA P c g L own ω k h :=
  let ⟨ω', m', s', h1, h2, h4⟩ := q; ⟨ω', m', s', h1, h2.pop, h4⟩
theorem wl_ok {n : Nat} (HS : ∀ i, i < n → Sound P K M c (run M i)) {t : Expr} {b : List Stmt} {pos : Pos} {k : Fl → St → Prop} (e1 : (run M n).wl F s t b k) (hcv : F.cv = none) (f : FR P K M c A F env L g own ω) (R : Rel P c g L own ω m s h) :
    W c A (exec (.While t b [] pos) env) h (PostF P c g L own ω k) := by
  refine x_while (fun j h => j ≤ n ∧ ∃ ω' m' s', Ext ω ω' ∧ Rel P c g L own ω' m' s' h ∧ (run M j).wl F s' t b k) ?_ n ⟨Nat.le_refl _, ω, m, s, .refl, R, e1⟩
  rintro j h₁ ⟨hj, ω₁, m₁, s₁, e₁, R₁, e1⟩
  cases j with
  | zero => exact e1.elim
  | succ j =>
    have e1 : (stp M (run M j)).wl F s₁ t b k := e1
    unfold stp at e1
    dsimp only at e1
    refine ((HS j (by omega)).te e1 (f.ext e₁) R₁ _ (fun _ => rfl)).mono ?_
    intro bb h₂ pp; refine PostB.use pp fun ω₂ s₂ e₂ R₂ e1 => ?_
    have e1 := br_is e1
    cases bb with
    | true =>
      refine ((HS j (by omega)).xs e1 hcv (f.ext (e₁.trans e₂)) R₂).mono ?_
      rintro fl h₃ ⟨ω₃, m₃, s₃, fl', e₃, R₃, hfl, e1⟩
      cases fl <;> cases fl' <;> first
        | exact hfl.elim
        | exact ⟨j, Nat.lt_succ_self _, by omega, ω₃, m₃, s₃, e₁.trans (e₂.trans e₃), R₃, e1⟩
        | exact ⟨ω₃, m₃, s₃, _, e₁.trans (e₂.trans e₃), R₃, hfl, e1⟩
    | false => exact execs_nil ⟨ω₂, m₁, s₂, .next, e₁.trans e₂, R₂, trivial, e1⟩
noncomputable def ForI (P : LamP) (M : Mc) (c : Cx) (F : Fm) (L : Addr) (g : Heap) (own : List (Addr × AObj)) (ω₁ : Wd) (n : Nat) (t : Expr) (b : List Stmt) (k : Fl → St → Prop) (i : Nat) (d it : Addr) (j : Nat) (h : Heap) : Prop :=
  j ≤ n ∧ ∃ ω' m' s' idx o, Ext ω₁ ω' ∧ IsIt o d idx ∧ Rel P c g L ((it, .raw o) :: own) ω' m' s' h ∧ (run M j).fo F s' t i idx b k
theorem for_turn {n : Nat} (HS : ∀ i, i ≤ n → Sound P K M c (run M i)) {t : Expr} {b : List Stmt} {k : Fl → St → Prop} {i j : Nat} {d it : Addr} {ω₁ : Wd} {Q : Flow → Heap → Prop} {h₂ : Heap} {cl : List (Str × Addr)} (fo : FO K c A env F.nm L cl g F.d) (hcv : F.cv = none)
    (f : FR P K M c A F env L g own ω₁) (hd : ω₁.σ[i]? = some d) (q : ∀ fl h, PostF P c g L own ω₁ k fl h → Q fl h) (J : ForI P M c F L g own ω₁ n t b k i d it j h₂) :
    W c A (pyNext (.ref it)) h₂ (fun r h₁ => match r with
      | none => W c A (execs [] env) h₁ Q
      | some v => W c A (assign t env v) h₁ (fun _ h₂ => W c A (execs b env) h₂ (Turn Q (ForI P M c F L g own ω₁ n t b k i d it) j))) := by
  obtain ⟨hj, ω₂, m₂, s₂, idx, o, e₂, io, R₂, e1⟩ := J
  cases j with
  | zero => exact e1.elim
  | succ j =>
    have e1 : (stp M (run M j)).fo F s₂ t i idx b k := e1
    unfold stp at e1
    dsimp only at e1
    split at e1
    · rename_i vs hvs
      obtain ⟨ls₂, l₂, S₂, hat, re1, re2⟩ := R₂.front2
      obtain ⟨a2, x2, q1, q2, q3⟩ := hat i _ hvs
      rw [e₂.get hd] at q1; cases q1
      cases q3 with
      | lst q4 =>
      cases hv : vs[idx]? with
      | none =>
        rw [hv] at e1
        refine it_end fo S₂ io q2 ?_ fun h₃ S₃ => ?_
        · rw [List.getElem?_eq_none_iff] at hv ⊢; rw [← q4.len]; exact hv
        · exact execs_nil (q _ _ ⟨ω₂, m₂, s₂, .next, e₂, re2 h₃ S₃, trivial, e1⟩)
      | some v =>
        rw [hv] at e1
        obtain ⟨av, r1, r2⟩ := q4.get hv
        refine it_next S₂ io q2 r1 (r2.all fun y hy o' h₃ io' S₃ => ?_)
        have f₃ : FR P K M c A F env L g ((it, .raw o') :: own) ω₂ := f.mono e₂ fun p hp => .tail _ hp
        refine ((HS j (by omega)).as e1 hcv f₃ (re1 _ h₃ S₃) hy).mono ?_
        intro _ h₄ pp; refine PostA.use pp fun ω₄ m₄ s₄ e₄ R₄ e1 => ?_
        refine ((HS j (by omega)).xs e1 hcv (f₃.ext e₄) R₄).mono ?_
        intro fl h₅ pp; refine PostF.use pp fun ω₅ m₅ s₅ fl' e₅ R₅ hfl e1 => ?_
        have e := e₂.trans (e₄.trans e₅)
        cases fl <;> cases fl' <;> first
          | exact hfl.elim
          | exact ⟨j, Nat.lt_succ_self _, by omega, ω₅, m₅, s₅, idx + 1, o', e, io', R₅, e1⟩
          | exact q _ _ ⟨ω₅, m₅, s₅, _, e, R₅.pop, hfl, e1⟩
    · exact e1.elim
theorem fo_ok {n : Nat} (HS : ∀ i, i ≤ n → Sound P K M c (run M i)) {t it : Expr} {b : List Stmt} {pos : Pos} {k : Fl → St → Prop} (hset : isSetE it = false)
    (e1 : (run M n).ev F s it fun v s => (match v with
          | .loc i => (match s.os[i]? with
            | some (.lst _) => (run M n).fo F s t i 0 b k
            | _ => False)
          | _ => False)) (ht : ∀ it v, letOwnedTupleGo t it v = pure ()) (hcv : F.cv = none) (f : FR P K M c A F env L g own ω) (R : Rel P c g L own ω m s h) :
    W c A (exec (.For t it b [] pos) env) h (PostF P c g L own ω k) := by
  obtain ⟨cl, fo, _⟩ := f.top hcv
  refine x_for (((HS n (Nat.le_refl _)).ev e1 f R).mono ?_) ht (fold_no hset)
  intro x h₁ pp; refine Post.use pp fun ω₁ v s₁ e₁ R₁ hv e1 => ?_
  cases v <;> first | exact e1.elim | skip
  rename_i i
  have e1 : (match s₁.os[i]? with
            | some (.lst _) => (run M n).fo F s₁ t i 0 b k
            | _ => False) := e1
  obtain ⟨d, hd, rfl⟩ := hv.loc
  cases hi : s₁.os[i]? with
  | none => rw [hi] at e1; exact e1.elim
  | some o =>
    rw [hi] at e1
    cases o <;> first | exact e1.elim | skip
    refine (R₁).use fun ls l h1 h2 S => ?_
    obtain ⟨a1, x1, p1, p2, p3⟩ := h2.at hi
    rw [hd] at p1; cases p1
    cases p3 with
    | lst p4 =>
    refine it_new S (List.mem_append_left _ p2) fun it o h₂ io S₂ => ?_
    exact .mk (ForI P M c F L g own ω₁ n t b k i d it) n ⟨Nat.le_refl _, ω₁, m, s₁, 0, o, .refl, io, ⟨ls, l, h1, h2, ⟨S₂.lo, S₂.ld.perm (by rw [← List.append_assoc, ← List.append_assoc]; exact List.perm_middle)⟩⟩, e1⟩
      fun j h₂ J => for_turn HS fo hcv (f.ext e₁) hd (fun fl h p => p.ext e₁) J
end
end Mine
namespace Mine
variable {P : LamP}
section
variable {K : Frag} {M : Mc} {c : Cx} {A : Around} {F : Fm} {env : Env} {nm : List (Str × NameKind)} {L : Addr} {cl : List (Str × Addr)} {g h h' : Heap} {n : Nat} {m : Str → Option Value} {own : List (Addr × AObj)} {ω : Wd} {s : St}
theorem swap_none {ts : List Expr} {k : Nat} {p : Pos} {e : Expr} {env : Env} (h : ∀ vs k p, e ≠ .Tuple vs k p) : swappedStores [.Tuple ts k p] e env = pure none := by
  cases e <;> first | rfl | exact absurd rfl (h _ _ _)
theorem swap_is {ts vs : List Expr} {k k' : Nat} {p p' : Pos} {r : Option (List Str)} (f : FO K c A env F.nm L cl g n) (h : swapI F ts vs = some r) : swappedStores [.Tuple ts k p] (.Tuple vs k' p') env = pure r := by
  obtain ⟨cn, cs, a, ccd, rfl, hn, hkd⟩ := f.env_
  have hko : ∀ x, (envX cn cs L a ccd cl).kindOf x = F.nm.lookup x := fun x => by rw [← hn]; rfl
  have hbk : (envX cn cs L a ccd cl).blockKind = .function := by
    show (if cs.kind.isAnnotationScope then ScopeKind.function else cs.kind) = .function
    rw [hkd]; rfl
  have hko : (envX cn cs L a ccd cl).kindOf = fun x => F.nm.lookup x := funext hko
  unfold swapI at h
  unfold swappedStores
  rw [hbk, hko]
  show (if (!(ts.length == 2 || ts.length == 3) || vs.length != ts.length || (ScopeKind.function != .function)) = true then (pure none : Sem (Option (List Str))) else _) = _
  split at h
  · rename_i h1
    cases h
    exact if_pos (by rw [h1]; rfl)
  · rename_i h1
    refine (if_neg (by rw [h1]; simp)).trans ?_
    split at h
    · rename_i h2; cases h; exact if_pos h2
    · rename_i h2
      refine (if_neg (fun q => Bool.false_ne_true (h2.symm.trans q))).trans ?_
      have key : ∀ names : List Str, (match names.length != ts.length || names.eraseDups.length != names.length with
          | true => some none
          | false => match vs.all (foldedForSure 8) with
            | true => some none
            | false => match vs.all (constantsAlone 8) with
              | true => none
              | false => some (some names)) = some r →
          (do
            if names.length != ts.length || names.eraseDups.length != names.length then return none
            if vs.all (foldedForSure 8) then return none
            if vs.all (constantsAlone 8) then unsupported "assign.tuple-of-constant-expressions:order-of-the-stores"
            return some names : Sem (Option (List Str))) = pure r := by
        intro names h
        split at h
        · rename_i h3; cases h; rw [if_pos h3]
        · rename_i h3
          rw [if_neg (by rw [h3]; simp)]
          split at h
          · rename_i h4; cases h; rw [if_pos h4]
          · rename_i h4
            rw [if_neg (by rw [h4]; simp)]
            split at h
            · cases h
            · rename_i h5
              cases h
              rw [if_neg (by rw [h5]; simp)]
      exact key _ h
end
end Mine
namespace Mine
variable {P : LamP}
section
variable {K : Frag} {M : Mc} {c : Cx} {A : Around} {F : Fm} {env : Env} {nm : List (Str × NameKind)} {L : Addr} {cl : List (Str × Addr)} {g h h' : Heap} {n : Nat} {m : Str → Option Value} {own : List (Addr × AObj)} {ω : Wd} {s : St}
theorem PostA.next {k : Fl → St → Prop} (q : PostA P c g L own ω (k .next) h) : PostF P c g L own ω k .next h :=
  let ⟨ω', m', s', h1, h2, h4⟩ := q; ⟨ω', m', s', .next, h1, h2, trivial, h4⟩
theorem names_ok : ∀ {xs : List Str} {us : List U} {vs : List Value} {ω : Wd} {m : Str → Option Value} {s : St} {h : Heap} {k : St → Prop} (hcv : F.cv = none), seqNames F xs us s k → FR P K M c A F env L g own ω → Rel P c g L own ω m s h → VIs P ω us vs →
    W c A (assignInOrder (xs.map fun n => bindName env n) vs) h (fun _ => PostA P c g L own ω k)
  | [], [], vs, ω, m, s, h, k, _, e, f, R, hv => by
    have := hv.nil_is; subst this
    exact in_nil ⟨ω, m, s, .refl, R, e⟩
  | x :: xs, u :: us, vs, ω, m, s, h, k, hcv, e, f, R, hv => by
    cases hv with
    | cons hx hr =>
    unfold seqNames at e
    obtain ⟨cl, fo, hcr⟩ := f.top hcv
    refine in_cons (bind_name ((storeI_ok fo hcr R hx e).mono ?_))
    rintro _ h₁ ⟨m₁, s₁, R₁, e⟩
    exact names_ok hcv e f R₁ hr
  | [], _ :: _, _, _, _, _, _, _, _, e, _, _, _ => by unfold seqNames at e; exact e.elim
  | _ :: _, [], _, _, _, _, _, _, _, e, _, _, _ => by unfold seqNames at e; exact e.elim
theorem VIs.rev {us : List U} {vs : List Value} (h : VIs P ω us vs) : VIs P ω us.reverse vs.reverse := by
  induction h with
  | nil => exact .nil
  | cons q _ ih => rw [List.reverse_cons, List.reverse_cons]; exact ih.append (.cons q .nil)
theorem name_go {t : Expr} (h : isName t = true) : ∀ it v, letOwnedTupleGo t it v = pure () := by
  cases t <;> first | (intro _ _; rfl) | cases h
theorem ex_split {M : Mc} {I : In} {F : Fm} {s : St} {k : Fl → St → Prop} {G : Stmt → Prop} (hcv : F.cv = none)
    (h1 : ∀ p, k .next s → G (.Pass p))
    (h2 : ∀ p, k (.ret .none) s → G (.Return none p))
    (h3 : ∀ e p, (I.ev F s e fun v s => k (.ret v) s) → G (.Return (some e) p))
    (h4 : ∀ e p, (match isComp e with
      | true => False
      | false => I.ev F s e fun _ s => k .next s) → G (.Expr e p))
    (h5 : ∀ t a b p, (I.te F s t fun c s => br c (I.xs F s a k) (I.xs F s b k)) → G (.If t a b p))
    (h6 : ∀ t b p, I.wl F s t b k → G (.While t b [] p))
    (h7 : ∀ t it b p, (match isSetE it || !isName t with
      | true => False
      | false => I.ev F s it fun v s => (match v with
        | .loc i => (match s.os[i]? with
          | some (.lst _) => I.fo F s t i 0 b k
          | _ => False)
        | _ => False)) → G (.For t it b [] p))
    (h8 : ∀ y py e p, (match viewR e with
        | some (x, _, x', _, iter, t, sc, cp) => (match F.nm.lookup y == some .local && py.line == cp.line && !(sc.names.any fun (n, k) => n == y && (k == .local || k == .cell)) with
          | true => rowsC I F s x x' iter t sc fun v s => storeI F s y v (k .next)
          | false => False)
        | none => (match viewG e with
          | some (elt, x, _, r, _, n, _, _, _, sc, cp) => (match F.nm.lookup y == some .local && py.line == cp.line && !(sc.names.any fun (n, k) => n == y && (k == .local || k == .cell)) && (small n && Nat.ble n.toNat 200) && blockOk F x (.Name r cp) sc, bltI M F r with
            | true, some .range => compI I { F with nm := sc.names } x elt (fun us s => newK s (.lst us) fun v s => storeI F s y v (k .next)) ((natTab.take n.toNat).map Int.ofNat) [] s
            | _, _ => False)
          | none => (match isComp e with
            | true => False
            | false => I.ev F s e fun v s => storeI F s y v (k .next)))) → G (.Assign [.Name y py] e p))
    (h9 : ∀ o y q e p, (I.ev F s e fun v s => I.ev F s o fun ov s => setI M s ov y v (k .next)) → G (.Assign [.Attribute o y q] e p))
    (h10 : ∀ o a b sp q e p, (I.ev F s e fun v s => I.ev F s o fun ov s => optI I F s a fun a s => optI I F s b fun b s => sliceP s ov a b v (k .next)) → G (.Assign [.Subscript o (.Slice a b none sp) q] e p))
    (h11 : ∀ o i q e p, (I.ev F s e fun v s => I.ev F s o fun ov s => I.ev F s i fun x s => putI s ov x v (k .next)) → G (.Assign [.Subscript o i q] e p))
    (h12 : ∀ ts n q vs n' q' p, (match noStar ts && noStar vs && Nat.beq vs.length ts.length, swapI F ts vs with
        | true, some none => I.sp F s vs fun us s => (match Nat.beq ts.length us.length && fits us.length with
          | true => seqAs I F ts us s (k .next)
          | false => False)
        | true, some (some names) => I.sp F s vs fun us s => (match Nat.beq names.length us.length && fits us.length with
          | true => seqNames F names.reverse us.reverse s (k .next)
          | false => False)
        | _, _ => False) → G (.Assign [.Tuple ts n q] (.Tuple vs n' q') p))
    (h13 : ∀ ts n q e p, (∀ vs n' q', e ≠ .Tuple vs n' q') → (match noStar ts with
        | true => I.ev F s e fun v s => bindO (itemsI s v) fun us => (match Nat.beq ts.length us.length with
          | true => seqAs I F ts us s (k .next)
          | false => False)
        | false => False) → G (.Assign [.Tuple ts n q] e p)) :
    ∀ st, (stp M I).ex F s st k → G st := by
  obtain ⟨nm, cl, d, cv⟩ := F
  cases hcv
  intro st e1
  cases st <;> first | exact False.elim e1 | exact h1 _ e1 | exact h4 _ _ e1 | exact h5 _ _ _ _ e1 | skip
  · rename_i v p
    cases v <;> first | exact h2 _ e1 | exact h3 _ _ e1
  · rename_i ts e p
    cases ts <;> first | exact False.elim e1 | skip
    rename_i t ts
    cases t <;> first | exact False.elim e1 | skip
    all_goals (cases ts <;> first | exact False.elim e1 | exact h8 _ _ _ _ e1 | exact h9 _ _ _ _ _ e1 | skip)
    case Subscript.nil =>
      rename_i o i q
      cases i <;> first | exact h11 _ _ _ _ _ e1 | skip
      rename_i a b c sp
      cases c <;> first | exact False.elim e1 | exact h10 _ _ _ _ _ _ _ e1
    case Subscript.cons =>
      rename_i o i q t2 ts
      cases i <;> first | exact False.elim e1 | skip
      rename_i a b c sp
      cases c <;> exact False.elim e1
    case Tuple.nil =>
      rename_i ts n q
      cases e <;> first | exact h12 _ _ _ _ _ _ _ e1 | exact h13 _ _ _ _ _ (fun _ _ _ z => by cases z) e1
  · rename_i t it b oe p
    cases oe <;> first | exact False.elim e1 | exact h7 _ _ _ _ e1
  · rename_i t b oe p
    cases oe <;> first | exact False.elim e1 | exact h6 _ _ _ e1
theorem ex_ok {n : Nat} (HS : ∀ i, i ≤ n → Sound P K M c (run M i)) (T : TabOk K M) {st : Stmt} {k : Fl → St → Prop} (e1 : (stp M (run M n)).ex F s st k) (hcv : F.cv = none) (f : FR P K M c A F env L g own ω) (R : Rel P c g L own ω m s h) : W c A (exec st env) h (PostF P c g L own ω k) := by
  have HI := HS n (Nat.le_refl _)
  obtain ⟨cl, fo, hcr⟩ := f.top hcv
  have X := fo.X
  revert e1
  refine ex_split (G := fun st => W c A (exec st env) h (PostF P c g L own ω k)) hcv ?_ ?_ ?_ ?_ ?_ ?_ ?_ ?_ ?_ ?_ ?_ ?_ ?_ st
  · intro p e1
    exact x_pass ⟨ω, m, s, .next, .refl, R, trivial, e1⟩
  · intro p e1
    exact x_ret0 ⟨ω, m, s, .ret .none, .refl, R, VI.of_none, e1⟩
  · intro e p e1
    refine x_ret ((HI.ev e1 f R).mono ?_)
    intro x h₁ pp; refine Post.use pp fun ω₁ v s₁ e₁ R₁ hv e1 => ?_
    exact ⟨ω₁, m, s₁, .ret v, e₁, R₁, hv, e1⟩
  · intro e p e1
    split at e1
    · exact e1.elim
    · rename_i hc
      refine x_expr fo ((HI.ev e1 f R).mono ?_) (swaps_no hc)
      intro x h₁ pp; refine Post.use pp fun ω₁ v s₁ e₁ R₁ hv e1 => ?_
      exact ⟨ω₁, m, s₁, .next, e₁, R₁, trivial, e1⟩
  · intro t a b p e1
    refine x_if ((HI.te e1 f R _ (fun _ => rfl)).mono ?_)
    intro b h₁ pp; refine PostB.use pp fun ω₁ s₁ e₁ R₁ e1 => ?_
    have e1 := br_is e1
    cases b with
    | true => exact (HI.xs e1 hcv (f.ext e₁) R₁).mono fun z h₂ p => p.ext e₁
    | false => exact (HI.xs e1 hcv (f.ext e₁) R₁).mono fun z h₂ p => p.ext e₁
  · intro t b p e1
    exact wl_ok (fun i hi => HS i (Nat.le_of_lt hi)) e1 hcv f R
  · intro t it b p e1
    split at e1
    · exact e1.elim
    · rename_i hc
      rw [Bool.or_eq_false_iff, Bool.not_eq_false'] at hc
      exact fo_ok HS hc.1 e1 (name_go hc.2) hcv f R
  · intro y py e p e1
    split at e1
    · rename_i x px x' px' iter t sc cp hv
      have := viewR_is hv
      subst this
      split at e1
      · rename_i hb
        simp only [Bool.and_eq_true, Bool.not_eq_true', beq_iff_eq] at hb
        obtain ⟨⟨b1, b2⟩, b3⟩ := hb
        obtain ⟨rfl, _, b3', _, b4, hcell, hnames, b5, b6, cl', hclos, w⟩ := rowsC_get T HI e1 f R
        refine (R).use fun ls l h1 h2 S => ?_
        refine comp_assign_R fo S ?_ hclos hcell b4 hnames b5 b6 (mem_lookup b1) (w.mono fun xv h₁ p => p.mono ?_) (fold_no b3')
        · obtain ⟨cn, cs, a, ccd, rfl, hn, hkd⟩ := fo.env_
          have hbk : (envX cn cs L a ccd cl).blockKind = .function := by
            show (if cs.kind.isAnnotationScope then ScopeKind.function else cs.kind) = .function
            rw [hkd]; rfl
          have hko : (envX cn cs L a ccd cl).kindOf y = some .local := by
            show cs.names.lookup y = _
            rw [hn]; exact b1
          show (pure ((envX cn cs L a ccd cl).blockKind == .function && (envX cn cs L a ccd cl).kindOf y == some .local && py.line == cp.line && !(sc.names.any fun (n, k) => n == y && (k == .local || k == .cell))) : Sem Bool) = pure true
          rw [hbk, hko, b2, b3]
          simp
        · rintro D' vf lr ⟨ω', ls', l', s₁, e', j1, j2, j3, pm, hτ, kk⟩ h' D
          have ex2 : Ext ω' ⟨ω'.σ, (D', .lst (vf.map φR)) :: ω'.τ⟩ := Ext.keep
          have hr : UR P ⟨ω'.σ, (D', .lst (vf.map φR)) :: ω'.τ⟩ (.rows (vf.map (·.1))) (.ref D') := .rows (.head _) ((pairs_rrs hτ).mono fun _ hp => .tail _ hp)
          unfold storeI at kk
          rw [b1] at kk
          dsimp only at kk
          split at kk
          · rename_i hm
            have hm : y ∈ s₁.ls.map (·.1) := by simpa using hm
            obtain ⟨ls₂, u, k2⟩ := (j1.mono ex2).set hr hm
            refine ⟨_, _, ⟨setLs y (.rows (vf.map (·.1))) s₁.ls, s₁.os⟩, .next, e'.trans ex2, ⟨ls₂, l', k2, j3.mono ex2, ⟨j2.store u rfl, D.perm ?_⟩⟩, trivial, storeK_is kk⟩
            exact (List.perm_middle (l₁ := l') (l₂ := ω'.τ ++ own)).trans ((pm.symm).cons _)
          · exact kk.elim
      · exact e1.elim
    · split at e1
      · rename_i elt x px r rp nn k0 np cp' sc cp hv
        have := viewG_is hv
        subst this
        split at e1
        · rename_i hb hr
          simp only [Bool.and_eq_true, Bool.not_eq_true', beq_iff_eq] at hb
          obtain ⟨⟨⟨⟨b1, b2⟩, b3⟩, b4⟩, b5⟩ := hb
          have hn : nn.toNat ≤ 240 := Nat.le_trans (Nat.le_of_ble_eq_true b4.2) (by decide)
          have b4 := small_get b4.1
          obtain ⟨_, _, _, hk, hcell, hnames, hx, hxd, hok, cl', hclos, hcl⟩ := blockOk_get b5 f
          refine (R).use fun ls l h1 h2 S => ?_
          have hN : nn = (nn.toNat : Int) := by omega
          have his : nn.toNat ≤ 240 → ∀ i, i < nn.toNat → ((natTab.take nn.toNat).map Int.ofNat)[i]? = some (0 + (i : Int)) := fun hn i hi => by
            have key : ∀ i : Nat, i < 240 → natTab[i]? = some i := by decide +kernel
            rw [List.getElem?_map, List.getElem?_take_of_lt hi, key i (by omega)]
            simp
          · refine comp_range (N := nn.toNat) fo S.ld ?_ hclos hcell hk hnames hx (mem_lookup b1) (by omega) (fun i ys lr j => by obtain ⟨_, _, _, _, _, _, _, _, _, _, _, _, nd⟩ := j; exact nd) (comp_rel (k0 := fun us s => newK s (.lst us) fun v s => storeI F s y v (k .next)) T HI f hcv hx hxd hk hok hcl (his hn)) ?_ (fun _ => rfl) ?_
            · obtain ⟨cn, cs, a, ccd, rfl, hn', hkd⟩ := fo.env_
              have hbk : (envX cn cs L a ccd cl).blockKind = .function := by
                show (if cs.kind.isAnnotationScope then ScopeKind.function else cs.kind) = .function
                rw [hkd]; rfl
              have hko : (envX cn cs L a ccd cl).kindOf y = some .local := by
                show cs.names.lookup y = _
                rw [hn']; exact b1
              show (pure ((envX cn cs L a ccd cl).blockKind == .function && (envX cn cs L a ccd cl).kindOf y == some .local && py.line == cp.line && !(sc.names.any fun (n, k) => n == y && (k == .local || k == .cell))) : Sem Bool) = pure true
              rw [hbk, hko, b2, b3]
              simp
            · refine e_call (f.blt R hr ?_) rfl
              refine cw_T rfl (by simp) (sp_consG rfl (l_int fun t => sp_nil ?_))
              intro tk
              obtain ⟨rr, hrr, N⟩ := S.ld.nw
              rw [hN]
              refine range1_rows (s := ⟨h, c.g, c.d, tk, c.o⟩) S.ld.fr N fun h' tk' t₁ u₁ v₁ hr' F' N' _ => ?_
              exact ⟨h', tk', rfl, _, t₁, u₁, v₁, l ++ (ω.τ ++ own), rfl, hr', ⟨[], ω, ls, l, s, e1, .nil, .refl, h1, S.lo, h2, .refl _, S.ld.nd⟩, ⟨F', S.ld.nd, rr, hrr, N'⟩⟩
            · rintro D' ys lr h' ⟨us, ω', ls', l', s', e, hu, ex, j1, j2, j3, pm, nd⟩ D
              have hd : ((natTab.take nn.toNat).map Int.ofNat).drop nn.toNat = [] := List.drop_eq_nil_of_le (by simp; omega)
              rw [hd] at e
              exact compI_end (x := x) (elt := elt) (k0 := fun _ _ => True) (I := run M n) b1 e hu ex j1 j2 j3 pm D
        · exact e1.elim
      · split at e1
        · exact e1.elim
        · rename_i hc
          refine x_assign ((HI.ev e1 f R).mono ?_) (swaps_no hc)
          intro x h₁ pp; refine Post.use pp fun ω₁ v s₁ e₁ R₁ hv e1 => ?_
          exact (storeI_ok fo (hcr.mono e₁) R₁ hv e1).mono fun _ h' ⟨m', s', R', kk⟩ => ⟨ω₁, m', s', .next, e₁, R', trivial, kk⟩
  · intro o y q e p e1
    refine x_attr ((HI.ev e1 f R).mono ?_) swaps_attr
    intro x h₁ pp; refine Post.use pp fun ω₁ v s₁ e₁ R₁ hv e1 => ?_
    refine (HI.ev e1 (f.ext e₁) R₁).mono ?_
    intro y h₂ pp; refine Post.use pp fun ω₂ u s₂ e₂ R₂ hu e1 => ?_
    exact (setI_ok T X R₂ hu (hv.mono e₂) e1).mono fun _ h' ⟨s', R', kk⟩ => ⟨ω₂, m, s', .next, e₁.trans e₂, R', trivial, kk⟩
  · intro o a b sp q e p e1
    refine x_item ((HI.ev e1 f R).mono ?_) swaps_sub
    intro x h₁ pp; refine Post.use pp fun ω₁ v s₁ e₁ R₁ hv e1 => ?_
    have f₁ := f.ext e₁
    refine (HI.ev e1 f₁ R₁).mono ?_
    intro y h₂ pp; refine Post.use pp fun ω₂ u s₂ e₂ R₂ hu e1 => ?_
    have f₂ := f₁.ext e₂
    refine e_slice ((opt_ok HI e1 f₂ R₂).mono ?_)
    intro xa h₃ pp; refine Post.use pp fun ω₃ va s₃ e₃ R₃ hva e1 => ?_
    have f₃ := f₂.ext e₃
    refine (opt_ok HI e1 f₃ R₃).mono ?_
    intro xb h₄ pp; refine Post.use pp fun ω₄ vb s₄ e₄ R₄ hvb e1 => ?_
    refine p_none ?_
    intro sl h₅ up
    have R₅ := R₄.push (h' := h₅) (d := sl) fun ls l S => up _ _ _ _ _ S
    exact (sliceP_ok R₅ (hu.mono (e₃.trans e₄)) (hva.mono e₄) hvb (hv.mono (e₂.trans (e₃.trans e₄))) e1).mono fun _ h' ⟨s', R', kk⟩ => ⟨ω₄, m, s', .next, e₁.trans (e₂.trans (e₃.trans e₄)), R', trivial, kk⟩
  · intro o i q e p e1
    · refine x_item ((HI.ev e1 f R).mono ?_) swaps_sub
      intro x h₁ pp; refine Post.use pp fun ω₁ v s₁ e₁ R₁ hv e1 => ?_
      refine (HI.ev e1 (f.ext e₁) R₁).mono ?_
      intro y h₂ pp; refine Post.use pp fun ω₂ u s₂ e₂ R₂ hu e1 => ?_
      refine (HI.ev e1 (f.ext (e₁.trans e₂)) R₂).mono ?_
      intro z h₃ pp; refine Post.use pp fun ω₃ w s₃ e₃ R₃ hw e1 => ?_
      exact (putI_ok R₃ (hu.mono e₃) hw (hv.mono (e₂.trans e₃)) e1).mono fun _ h' ⟨s', R', kk⟩ => ⟨ω₃, m, s', .next, e₁.trans (e₂.trans e₃), R', trivial, kk⟩
  · intro ts n q vs n' q' p e1
    split at e1
    · rename_i hb hsw
      simp only [Bool.and_eq_true] at hb
      obtain ⟨⟨b1, b2⟩, b3⟩ := hb
      refine x_tup (e_tup ((HI.sp e1 b2 f R _).mono ?_)) swaps_tup (swap_is fo hsw)
      intro vs h₁ pp; refine PostL.use pp fun ω₁ us s₁ e₁ R₁ hus e1 => ?_
      split at e1
      · rename_i hz
        rw [Bool.and_eq_true] at hz
        have hz1 := Nat.eq_of_beq_eq_true hz.1
        have hz2 := fits_get hz.2
        refine (R₁).use fun ls l h1 h2 S => ?_
        obtain ⟨as, q1, q2⟩ := hus.split
        refine n_tup S q2 (by rw [← q1.len]; omega) fun d h₂ S₂ => ?_
        refine as_tup fo S₂ (.head _) (by rw [ases_len b1, hz1, q1.len]) (ases_star b1) fun ws h₃ hw S₃ => ?_
        have R₃ : Rel P c g L ((d, .tup as) :: own) ω₁ m s₁ h₃ := ⟨ls, l, h1, h2, ⟨S₃.lo, S₃.ld.perm (by rw [← List.append_assoc, ← List.append_assoc]; exact List.perm_middle)⟩⟩
        refine (seq_ok HI hcv b1 e1 (f.mono e₁ fun p hp => .tail _ hp) R₃ (AVs.of_split q1 hw)).mono fun _ h₄ p => ?_
        exact ((p.pop).ext e₁).next
      · exact e1.elim
    · rename_i names hb hsw
      simp only [Bool.and_eq_true] at hb
      obtain ⟨⟨b1, b2⟩, b3⟩ := hb
      refine x_tupS (names := names) (e_tup ((HI.sp e1 b2 f R _).mono ?_)) swaps_tup (swap_is fo hsw)
      intro vs h₁ pp; refine PostL.use pp fun ω₁ us s₁ e₁ R₁ hus e1 => ?_
      split at e1
      · rename_i hz
        rw [Bool.and_eq_true] at hz
        have hz1 := Nat.eq_of_beq_eq_true hz.1
        have hz2 := fits_get hz.2
        refine (R₁).use fun ls l h1 h2 S => ?_
        obtain ⟨as, q1, q2⟩ := hus.split
        refine n_tup S q2 (by rw [← q1.len]; omega) fun d h₂ S₂ => ?_
        refine un_tup fo S₂ (.head _) (by rw [hz1, q1.len]) fun ws h₃ hw S₃ => ?_
        have R₃ : Rel P c g L ((d, .tup as) :: own) ω₁ m s₁ h₃ := ⟨ls, l, h1, h2, ⟨S₃.lo, S₃.ld.perm (by rw [← List.append_assoc, ← List.append_assoc]; exact List.perm_middle)⟩⟩
        refine (names_ok hcv e1 (f.mono e₁ fun p hp => .tail _ hp) R₃ (AVs.of_split q1 hw).rev).mono fun _ h₄ p => ?_
        exact ((p.pop).ext e₁).next
      · exact e1.elim
    · exact e1.elim
  · intro ts n q e p hnt e1
    split at e1
    · rename_i b1
      refine x_tup ((HI.ev e1 f R).mono ?_) swaps_tup (swap_none fun vs k p q => ?_)
      · rintro x h₁ ⟨ω₁, v, s₁, e₁, R₁, hv, e1⟩
        refine bindO_use e1 fun us hi e1 => ?_
        split at e1
        · rename_i hl
          exact (unpack_ok HI hcv b1 hi (Nat.eq_of_beq_eq_true hl) e1 (f.ext e₁) R₁ hv).mono fun _ h₂ p => (p.ext e₁).next
        · exact e1.elim
      · subst q
        exact hnt _ _ _ rfl
    · exact e1.elim
theorem run_ok (T : TabOk K M) (LM : LamOk P K c) (SP : SpOk P K M c) : ∀ n, Sound P K M c (run M n) := by
  intro n
  induction n using Nat.strongRecOn with
  | _ n ih =>
    cases n with
    | zero => exact ⟨fun e => e.elim, fun e => e.elim, fun e => e.elim, fun e => e.elim, fun e => e.elim, fun e => e.elim, fun e => e.elim, fun e => e.elim⟩
    | succ n =>
      have HI := ih n (Nat.lt_succ_self _)
      have HS : ∀ i, i ≤ n → Sound P K M c (run M i) := fun i hi => ih i (Nat.lt_succ_of_le hi)
      exact {
        ev := fun e A env L g own ω m h f R => ev_ok HI T LM e f R
        te := fun e A env L g own ω m h f R whole hw => te_ok HI e f R whole hw
        sp := fun e hs A env L g own ω m h f R pos => sp_ok HI e hs f R pos
        sp0 := fun e => e
        ca := fun e A env nm L cl g own ω m h vs f R hv => callI_ok HI T SP e f R hv
        as := fun e A env L g own ω m h x hcv f R hv => as_ok HI T e hcv f R hv
        ex := fun e A env L g own ω m h hcv f R => ex_ok HS T e hcv f R
        xs := fun e A env L g own ω m h hcv f R => xs_ok HI e hcv f R }
end
end Mine
namespace Mine
noncomputable def runT (st : SharedT → Thread → Option (SharedT × Thread)) (ok : Thread → Bool) : Nat → SharedT → Thread → Option SharedT
  | 0, _, _ => none
  | n + 1, s, t => match through t with
    | true => some s
    | false => match ok t with
      | false => none
      | true => match st s t with
        | some (s', t') => runT st ok n s' t'
        | none => none
theorem runT_of {tb : String → Option Builtin} {p : Program} {w : World} {n₀ : Nat} {ann : Option Value} : ∀ {n : Nat} {s s' : SharedT} {t : Thread}, runT (stepT (denote tb) p w) (stepOk n₀ ann) n s t = some s' → topRun tb p w n₀ ann n s.abs t = some s'.abs
  | 0, _, _, _, h => by cases h
  | n + 1, s, s', t, h => by
    unfold runT at h
    unfold topRun
    cases ht : through t with
    | true => rw [ht] at h; cases h; rfl
    | false =>
      rw [ht] at h
      cases hk : stepOk n₀ ann t with
      | false => rw [hk] at h; cases h
      | true =>
        rw [hk] at h
        cases hs : stepT (denote tb) p w s t with
        | none => rw [hs] at h; cases h
        | some r => obtain ⟨s₂, t₂⟩ := r; rw [hs] at h; rw [stepT_spec hs]; exact runT_of h
noncomputable def insAll : BT → Nat → List Obj → BT
  | t, _, [] => t
  | t, n, o :: r => insAll (t.ins n o) (n + 1) r
noncomputable def insOk : BT → Nat → List Obj → Bool
  | _, _, [] => true
  | t, n, o :: r => match ((t.ins n o).get n).isSome with
    | true => insOk (t.ins n o) (n + 1) r
    | false => false
theorem insAll_abs {life : Life} : ∀ (l : List Obj) (t : BT) (n : Nat), insOk t n l = true → absHeap (insAll t n l) (n + l.length) life = l.foldl Heap.push (absHeap t n life)
  | [], _, _, _ => rfl
  | o :: r, t, n, h => by
    unfold insOk at h
    cases q : ((t.ins n o).get n).isSome with
    | false => rw [q] at h; cases h
    | true =>
      rw [q] at h
      have := insAll_abs (life := life) r (t.ins n o) (n + 1) h
      rw [List.length_cons, show n + (r.length + 1) = n + 1 + r.length by omega, List.foldl_cons, ← absHeap_ins q]
      exact this
theorem foldl_push (l : List Obj) (h : Heap) : l.foldl Heap.push h = ⟨h.objs ++ l.toArray, h.life⟩ := by
  induction l generalizing h with
  | nil => simp
  | cons o l ih =>
    rw [List.foldl_cons, ih]
    show Heap.mk _ _ = _
    simp [Heap.push]
theorem toTree (h : Heap) (ok : insOk .nil 0 h.objs.toList = true) : absHeap (insAll .nil 0 h.objs.toList) h.objs.size h.life = h := by
  have := insAll_abs (life := h.life) _ _ _ ok
  rw [Nat.zero_add, foldl_push, Array.length_toList] at this
  rw [this]
  show Heap.mk ((absHeap BT.nil 0 h.life).objs ++ h.objs.toList.toArray) h.life = h
  have e : (absHeap BT.nil 0 h.life).objs = #[] := rfl
  rw [e]
  obtain ⟨⟨l⟩, life⟩ := h
  simp
noncomputable def bootT (P : Params) : BT := insAll .nil 0 (boot_heap P).objs.toList
noncomputable def tell (p q : Program) (loose : List Str) (Xt : Shared → Bool) {α : Type} (Yf : Shared → α) (P : Params) (s : Shared) :=
  (staticsOk (importedModules p.main.body) (boot_heap P) s.heap && namesBound p s.heap && gensDone s && laidKept (boot_heap P) s.heap, openSeen q loose (importedModules p.main.body) Xt true s, Yf s)
theorem left_of_run {p q : Program} {loose : List Str} {Xt : Shared → Bool} {α : Type} {Yf : Shared → α} {Ya : World → α} {N M m₀ : Nat} {life : Life} {ann : Option Value}
    (open_ : ∀ w : World, (fencedOpening treeTable p w N).map (fun s => (s.heap, s.gens, s.drawn, s.toks)) = some (boot_heap w.params, Array.mk [], boot_drawn, boot_toks))
    (size : ∀ w : World, ((boot_heap w.params).isNs mainGlobals, insOk .nil 0 (boot_heap w.params).objs.toList, (boot_heap w.params).objs.size, (boot_heap w.params).life, (boot_heap w.params).nsMap mainGlobals "__annotations__") = (true, true, m₀, life, ann))
    (le : Nat.ble M N = true)
    (run : ∀ (w : World), (fun os => (runT (stepT (denote treeTable) p w) (stepOk m₀ ann) M ⟨bootT w.params, m₀, life, #[], boot_drawn, boot_toks, os⟩ (topStub p)).map (fun s => tell p q loose Xt Yf w.params s.abs)) = fun _ => some (true, openGood q loose, Ya w)) :
    LeftO p q loose Xt Yf Ya N := fun w => by
  obtain ⟨⟨h, gs, d, k, os⟩, e, e'⟩ := Option.map_eq_some_iff.mp (open_ w)
  obtain ⟨rfl, rfl, rfl, rfl⟩ : h = boot_heap w.params ∧ gs = #[] ∧ d = boot_drawn ∧ k = boot_toks := by simpa using e'
  have hz := size w
  simp only [Prod.mk.injEq] at hz
  obtain ⟨z1, z0, z2, z4, z3⟩ := hz
  obtain ⟨s₁, r1, r2⟩ := Option.map_eq_some_iff.mp (congrFun (run w) os)
  have r := topRun_mono (N - M) _ _ _ _ (runT_of r1)
  rw [show M + (N - M) = N by have := Nat.le_of_ble_eq_true le; omega] at r
  have ha : (⟨bootT w.params, m₀, life, #[], boot_drawn, boot_toks, os⟩ : SharedT).abs = ⟨boot_heap w.params, #[], boot_drawn, boot_toks, os⟩ := by
    show Shared.mk _ _ _ _ _ = _
    have := toTree _ z0
    rw [z2, z4] at this
    unfold bootT
    rw [this]
  rw [ha] at r
  unfold tell at r2
  obtain ⟨l1, l2, l3⟩ := (Prod.mk.injEq _ _ _ _ ▸ r2 : _ ∧ _) |>.imp id fun x => (Prod.mk.injEq _ _ _ _ ▸ x : _ ∧ _)
  have t : topFrom treeTable p w N ⟨boot_heap w.params, #[], boot_drawn, boot_toks, os⟩ = some s₁.abs := by
    unfold topFrom
    dsimp only
    rw [z1, z2, z3, r]
    show (match staticsOk (importedModules p.main.body) (boot_heap w.params) s₁.abs.heap && namesBound p s₁.abs.heap && gensDone s₁.abs && laidKept (boot_heap w.params) s₁.abs.heap with | true => _ | false => _) = _
    rw [l1]
  unfold openEnds
  rw [e]
  show (topFrom treeTable p w N _).map _ = _
  rw [t]
  exact congrArg some (Prod.ext l2 l3)
noncomputable def getT (s : SharedT) (a : Addr) : Option Obj := match Nat.blt a s.n with
  | true => alive ((s.tree.get a).getD default)
  | false => none
theorem getT_eq (s : SharedT) (a : Addr) : s.abs.heap.get? a = getT s a := by
  unfold getT
  show (absHeap s.tree s.n s.life).get? a = _
  cases h : Nat.blt a s.n with
  | true =>
    have lt : a < s.n := Nat.le_of_ble_eq_true h
    unfold Heap.get?
    rw [absHeap_at, if_pos lt]
    generalize (s.tree.get a).getD default = o
    show (match some o with | some ⟨_, _, .freed, _⟩ => none | o => o) = alive o
    obtain ⟨c, d, dt, sl⟩ := o
    cases dt <;> rfl
  | false =>
    have lt : ¬ a < s.n := fun q => by rw [show Nat.blt a s.n = true from Nat.ble_eq_true_of_le q] at h; cases h
    exact abs_get_none lt
theorem obs_eq (as : List Addr) (s : SharedT) : as.map s.abs.heap.get? = as.map (getT s) := List.map_congr_left fun a _ => getT_eq s a
theorem run_quick {p q : Program} {loose : List Str} {Xt : Shared → Bool} {α : Type} {Yf : Shared → α} {Y' : SharedT → α} {M m₀ : Nat} {ann : Option Value} {w : World} {r : Option (Bool × _ × α)} {f : OsState → SharedT} {t : Thread} (hY : ∀ s, Yf s.abs = Y' s)
    (h : (fun os => (runT (Fast.tw10156331382660048174 (Fast.tw11892475500146522536 Fast.tw14364793385576792824) p w) (Fast.tw6613529449190102663 m₀ ann) M (f os) t).map (fun s =>
      ((staticsOk (importedModules p.main.body) (boot_heap w.params) s.abs.heap && namesBound p s.abs.heap && gensDone s.abs && laidKept (boot_heap w.params) s.abs.heap, Fast.tw4187177175401517315 q loose (importedModules p.main.body) Xt true s.abs, Y' s)))) = fun _ => r) :
    (fun os => (runT (stepT (denote treeTable) p w) (stepOk m₀ ann) M (f os) t).map (fun s => tell p q loose Xt Yf w.params s.abs)) = fun _ => r := by
  rw [← h, ← Fast.te10156331382660048174, ← Fast.te11892475500146522536, ← Fast.te14364793385576792824, ← Fast.te6613529449190102663, ← Fast.te4187177175401517315]
  unfold tell
  simp only [hY]
end Mine
namespace Mine
theorem law_said : PySem.Challenge.rw_rg0142_01.wellSaid = true := (congrFun Fast.te9446332074065402090 PySem.Challenge.rw_rg0142_01).trans (by kernel_rfl)
theorem top_opens : opening PySem.Challenge.rw_rg0142_01.prog = plainProg PySem.Challenge.rw_rg0142_01.prog.main.scope.names := by kernel_rfl
theorem top_fence : ∀ s, fenceModules? PySem.Challenge.rw_rg0142_01.prog s = some s := by intro s; kernel_rfl
noncomputable def qv : Program := view PySem.Challenge.rw_rg0142_01.prog [67]
noncomputable def qn : List Str := (["_wall", "Amalgam", "LispSignal", "standard_messages", "message_with", "message_of", "LONGEST", "need_writable", "need_room", "reached", "tell_ahead", "tell_behind", "text_in", "hung_in", "put_in", "insert", "CommandTable", "without", "show_buffer", "previous_buffer", "Keymap", "Opaque", "Markers", "Editor", "GapText", "Buffer", "BufferTable", "LEAF", "COLUMN", "ROW", "WIDTH", "HEIGHT", "Window", "WindowTree", "along", "sort_along", "leaves_under", "windows_under", "replace_child", "least_size", "shares", "set_tree_size", "set_places", "split_parts", "combined", "split", "joined", "split_right", "_law_draw", "_law_window", "_law_behind"] : List String).map Str.ofString
theorem size_is : ∀ w : World, ((boot_heap w.params).isNs mainGlobals, insOk .nil 0 (boot_heap w.params).objs.toList, (boot_heap w.params).objs.size, (boot_heap w.params).life, (boot_heap w.params).nsMap mainGlobals "__annotations__") = (true, true, 11, {}, some (.ref 6)) := by
  intro w
  kernel_rfl
end Mine
namespace Mine
noncomputable def hook2 (H : Hook) : Hook := ⟨H.α × Bool, fun s => (H.obs s, (s.heap.get? sysModules).isSome), fun w => (H.val w, true), fun w h => H.says w h ∧ ∃ o, h.get? sysModules = some o,
  fun w s e => ⟨H.of w s (congrArg Prod.fst e), Option.isSome_iff_exists.mp (congrArg Prod.snd e)⟩, fun w h h' x k => ⟨H.keeps w h h' x.1 k, let ⟨o, q⟩ := x.2; ⟨o, k _ _ q⟩⟩⟩
theorem holds_two {r : OpenRow} {q : Program} {loose : List Str} {H : Hook} {d : DefRec} {kwd : List (Str × Expr)} {N : Nat}
    (hdef : defOf q r.name = some (d, kwd)) (hp : r.prog.theDef r.name = some (d.params, d.body, d.scope)) (hk : kwWritten? d.params.kwonlyargs d.params.kw_defaults = some kwd) (hR : r.records = []) (hwr : (!r.writes || r.records.isEmpty) = true)
    (k1 : r.wellSaid = true) (ok : (chainsOk q && opensWell r.prog && (frees r.toRowW && r.within.isEmpty)) = true) (hb : r.prog.bare) (hw : r.toRowW.promised)
    (both : LeftO r.prog q loose (fun _ => true) H.obs H.val N ∧ WalkO q loose (fun _ _ => True) H.says r.toRowW d kwd fun f vs => PySem.call f vs) : r.Holds :=
  holds_open both.1 H.of H.keeps (fun _ _ => trivial) (fun _ _ _ _ _ => trivial) hdef hp hk (fun _ _ => recFacts_nil hR) hwr k1 ok hb hw both.2
theorem law_ok : (chainsOk Mine.qv && opensWell PySem.Challenge.rw_rg0142_01.prog && (frees PySem.Challenge.rw_rg0142_01.row.toRowW && PySem.Challenge.rw_rg0142_01.row.within.isEmpty)) = true := by kernel_rfl
local macro_rules | `(tactic| o_law) => `(tactic| refine holds_law Mine.law_said fun said => ?_)
local macro_rules | `(tactic| o_head $H) => `(tactic| refine holds_two (q := Mine.qv) (loose := Mine.qn) (H := Mine.hook2 $H) (N := 14000) (by rfl) (by rfl) (by rfl) (by rfl) (by rfl) (by assumption) Mine.law_ok ⟨rfl, rfl, rfl, rfl, rfl, by decide +kernel⟩ ?hw ?hc)
open_top hd for PySem.Challenge.rw_rg0142_01
end Mine
namespace Mine
noncomputable def glOk (K : Frag) (p : Str × U) : Bool := match p.2 with
  | .glob a => nsIn K mainGlobals p.1 == some (some (.ref a)) && keepIn K (.ref a)
  | .int i => (match nsIn K mainGlobals p.1 with
    | some (some (.int j _)) => i == j
    | _ => false)
  | _ => false
noncomputable def tabsOk (K : Frag) (T : Tabs) : Bool :=
  T.gl.all (glOk K) && (T.bt.all fun p => nsIn K mainGlobals p.1 == some none && bootBuiltins p.1 == some (btV p.2) && p.1 != ("__name__" : Str)) &&
  (T.me.all fun p => p.2.all fun q => methOk K p.1 q.1 q.2) && (T.fi.all fun p => p.2.all fun y => fieldOk K p.1 y) &&
  (T.cs.all fun p => makesIn K p.1 && findIn K (.ref p.1) "__init__" == some (some (.ref p.2)) && isFn K (.ref p.2))
theorem mem_lookupN {β : Type} {l : List (Addr × β)} {x : Addr} {b : β} (e : l.lookup x = some b) : (x, b) ∈ l := by
  induction l with
  | nil => cases e
  | cons p l ih =>
    obtain ⟨y, b'⟩ := p
    rw [List.lookup_cons] at e
    split at e
    · rename_i q; cases e; have := eq_of_beq q; subst this; exact .head _
    · exact .tail _ (ih e)
theorem tabOk_of {K : Frag} {M : Mc} (h : tabsOk K M.T = true) (hf : ∀ fa f, M.fn fa = some f → fnK K fa = some f) : TabOk K M := by
  unfold tabsOk at h
  simp only [Bool.and_eq_true, List.all_eq_true] at h
  obtain ⟨⟨⟨⟨h1, h2⟩, h3⟩, h4⟩, h5⟩ := h
  refine ⟨fun x v e => ?_, fun x b e => ?_, fun C l y fa e e' => ?_, fun C l y e e' => ?_, fun C fi e => ?_, hf⟩
  · have := h1 _ (mem_lookup e)
    unfold glOk at this
    dsimp only at this
    split at this
    · rename_i a
      rw [Bool.and_eq_true] at this
      exact .inl ⟨a, rfl, eq_of_beq this.1, this.2⟩
    · rename_i i
      split at this
      · rename_i j t hn
        have := eq_of_beq this
        subst this
        exact .inr ⟨i, t, rfl, hn⟩
      · cases this
    · cases this
  · obtain ⟨⟨a, b'⟩, c⟩ := h2 _ (mem_lookup e)
    exact ⟨eq_of_beq a, eq_of_beq b', by simpa using c⟩
  · exact h3 _ (mem_lookupN e) _ (mem_lookup e')
  · exact h4 _ (mem_lookupN e) y (by simpa using e')
  · obtain ⟨⟨a, b⟩, c'⟩ := h5 _ (mem_lookupN e)
    exact ⟨a, eq_of_beq b, c'⟩
noncomputable def fnAddrs : List Addr := [145, 137, 88, 95, 102, 109, 116, 123, 130, 1061, 1046, 1032, 1039, 1053, 1018, 1025, 989, 996, 1003, 1008, 975, 982, 210, 205, 199, 1075, 1080, 393, 491, 756, 763, 770, 792, 799, 702, 681, 730, 561, 589, 582, 596, 351, 323, 862, 869, 883, 890, 919, 926, 933, 940, 947, 954,
  386, 749, 646, 554, 316, 855, 912, 159, 225, 35, 1085]
noncomputable def P0 : Params := { strHash := fun _ => 0, shareClass := fun a => a, mergeTok := fun t => t, idOf := fun _ => 0, idOfShared := fun _ _ => 0, followText := fun _ => false, idOfImm := fun _ => 0 }
noncomputable def fnT (fa : Addr) : Option FnI := match fnAddrs.contains fa with
  | true => fnK (Mine.hd.heap_1 P0) fa
  | false => none
theorem fns_same (P : Params) : fnAddrs.map (fnK (Mine.hd.heap_1 P)) = fnAddrs.map (fnK (Mine.hd.heap_1 P0)) := by kernel_rfl
theorem tabs_ok (P : Params) : tabsOk (Mine.hd.heap_1 P) tabs = true := by kernel_rfl
theorem fnT_ok (P : Params) (fa : Addr) (f : FnI) (h : fnT fa = some f) : fnK (Mine.hd.heap_1 P) fa = some f := by
  unfold fnT at h
  split at h
  · rename_i hc
    have hm : fa ∈ fnAddrs := by simpa using hc
    rw [← h]
    exact List.map_inj_left.mp (fns_same P) fa hm
  · cases h
theorem tab_ok (P : Params) (sp : Addr → Option Spec) : TabOk (Mine.hd.heap_1 P) ⟨tabs, fnT, sp⟩ := tabOk_of (tabs_ok P) (fnT_ok P)
end Mine
namespace Mine
theorem fmod_in (a : Int) {b : Int} (h : 0 < b) : 0 ≤ a.fmod b ∧ a.fmod b < b := by
  rw [Int.fmod_eq_emod_of_nonneg a (by omega)]
  exact ⟨Int.emod_nonneg _ (by omega), Int.emod_lt_of_pos _ h⟩
section
variable {c : Cx} {A : Around} {env : Env} {nm : List (Str × NameKind)} {cl : List (Str × Addr)} {L : Addr} {g h : Heap} {n : Nat} {m : Str → Option Value} {ls : List (Str × Option AV)}
theorem c_draw {D DC : Addr} {own : List (Addr × AObj)} {k many : Int} {ns : List Int} {tm : Tok} {Q : Value → Heap → Prop}
   (f : FO (Mine.hd.heap_1 c.w.params) c A env nm L cl g (n + 1)) (S : ST c g L m ls h ((D, .lst [.ref DC, .int k]) :: (DC, .lst (ns.map .int)) :: own))
   (hp : ∀ x ∈ ns, 0 ≤ x) (hl : ns.length ≤ 63) (h0 : 0 ≤ k) (h1 : k < 1000) (m0 : 2 ≤ many) (m1 : many ≤ 10)
   (hret : ∀ r t h', 0 ≤ r → r < many → ST c g L m ls h' ((D, .lst [.ref DC, .int (k + 1)]) :: (DC, .lst (ns.map .int)) :: own) → Q (.int r t) h') :
   W c A (call (.ref 1068) [.ref D, .int many tm]) h Q := by
  refine' call_top (binds := [("deck", .ref D), ("many", .int many tm)]) (ls₁ := [("deck", some (.ref D)), ("many", some (.int many))]) f S ?ho ?hcd (fun _ _ => BindsTo.of_eq ?hb) ?hloc ?hls ?hnm ?hcell ?k ?c1 ?c2 ?c3
  (( (case ho => k_is); (case hcd => k_is); (case hb => exact rfl); (case hloc => exact locs rfl); (case hcell => decide); (case c1 => exact rfl); (case c2 => exact rfl); (case c3 => exact rfl); (case hnm => decide +kernel); (case hls => exact ⟨by (((try dsimp only [List.map]); repeat (first | with_reducible exact List.Sublist.slnil | with_reducible refine List.Sublist.cons₂ _ ?_ | with_reducible refine List.Sublist.cons _ ?_))), by (repeat (first | exact LsAt.nil | refine LsAt.nay ?_ | refine LsAt.yea rfl (by (first | with_reducible exact AV.is_ref | with_reducible exact AV.is_int | with_reducible exact AV.is_bool | with_reducible exact AV.is_none | with_reducible exact AV.is_str | assumption)) ?_))⟩)))
  intro A' env' g' L' h' m' f' S'
  dsimp only at f'
  clear f S
  (repeat (first | (first | with_reducible refine execs_cons ?_ | with_reducible refine kn_next ?_ | with_reducible refine kn_ret ?_ | with_reducible refine execs_nil ?_ | ((with_reducible refine' x_assign ?_ ?zh); (case zh => with_unfolding_all rfl)) | ((with_reducible refine' x_attr ?_ ?zh); (case zh => with_unfolding_all rfl)) | ((with_reducible refine' x_item ?_ ?zh); (case zh => with_unfolding_all rfl)) | with_reducible refine x_ret ?_ | with_reducible refine x_ret0 ?_ | with_reducible refine x_if ?_ | ((with_reducible refine' x_expr ?zf ?_ ?zh); (case zf => assumption); (case zh => with_unfolding_all rfl)) | ((with_reducible refine' st_loc ?zf ?zD ?zk ?zu ?zv ?_); (case zf => assumption); (case zD => assumption); (case zk => ((repeat (first | with_reducible exact List.mem_cons_self | with_reducible refine List.mem_cons_of_mem _ ?_)); done)); (case zu => ((repeat (first | with_reducible exact UpdL.head | with_reducible refine UpdL.tail ?_)); done)); (case zv => (first | with_reducible exact AV.is_ref | with_reducible exact AV.is_int | with_reducible exact AV.is_bool | with_reducible exact AV.is_none | with_reducible exact AV.is_str | assumption)); intro _ _ _)) | (first | ((with_reducible show W _ _ (eval (Expr.Name _ _) _) _ _); (first | ((with_reducible refine' n_loc ?zf ?zD ?zk ?zm ?_ ?zd); (case zf => assumption); (case zD => assumption); (case zk => ((repeat (first | with_reducible exact List.mem_cons_self | with_reducible refine List.mem_cons_of_mem _ ?_)); done)); (case zm => ((repeat (first | with_reducible exact List.mem_cons_self | with_reducible refine List.mem_cons_of_mem _ ?_)); done)); (case zd => decide); (first | with_reducible refine AV.all_ref ?_ | (with_reducible refine AV.all_int ?_; intro _) | with_reducible refine AV.all_bool ?_ | with_reducible refine AV.all_none ?_ | (with_reducible refine AV.all_str ?_; intro _))) | ((with_reducible refine' n_glob ?zf ?zD ?zk ?ze ?_ ?zd); (case zf => assumption); (case zD => assumption); (case zk => ((repeat (first | with_reducible exact List.mem_cons_self | with_reducible refine List.mem_cons_of_mem _ ?_)); done)); (case ze => k_is); (case zd => decide)) | ((with_reducible refine' n_blt ?zf ?zD ?zk ?ze ?zv ?_ ?zn ?zd); (case zf => assumption); (case zD => assumption); (case zk => ((repeat (first | with_reducible exact List.mem_cons_self | with_reducible refine List.mem_cons_of_mem _ ?_)); done)); (case ze => k_is); (case zv => boot_fast); (case zn => decide); (case zd => decide)) | ((with_reducible refine' n_cell ?zf ?zD ?zk ?zc ?zm ?_ ?zd); (case zf => assumption); (case zD => assumption); (case zk => ((repeat (first | with_reducible exact List.mem_cons_self | with_reducible refine List.mem_cons_of_mem _ ?_)); done)); (case zc => ((repeat (first | with_reducible exact List.mem_cons_self | with_reducible refine List.mem_cons_of_mem _ ?_)); done)); (case zm => ((repeat (first | with_reducible exact List.mem_cons_self | with_reducible refine List.mem_cons_of_mem _ ?_)); done)); (case zd => decide); (first | with_reducible refine AV.all_ref ?_ | (with_reducible refine AV.all_int ?_; intro _) | with_reducible refine AV.all_bool ?_ | with_reducible refine AV.all_none ?_ | (with_reducible refine AV.all_str ?_; intro _))) | ((with_reducible refine' n_free ?zf ?zD ?zk ?zc ?zm ?_ ?zd ?zn); (case zf => assumption); (case zD => assumption); (case zk => ((repeat (first | with_reducible exact List.mem_cons_self | with_reducible refine List.mem_cons_of_mem _ ?_)); done)); (case zc => ((repeat (first | with_reducible exact List.mem_cons_self | with_reducible refine List.mem_cons_of_mem _ ?_)); done)); (case zm => ((repeat (first | with_reducible exact List.mem_cons_self | with_reducible refine List.mem_cons_of_mem _ ?_)); done)); (case zd => decide); (case zn => decide); (first | with_reducible refine AV.all_ref ?_ | (with_reducible refine AV.all_int ?_; intro _) | with_reducible refine AV.all_bool ?_ | with_reducible refine AV.all_none ?_ | (with_reducible refine AV.all_str ?_; intro _))))) | (with_reducible refine l_int ?_; intro _) | with_reducible refine l_none ?_ | with_reducible refine l_bool ?_ | (with_reducible refine l_str ?_; intro _) | with_reducible refine e_attrN ?_ | with_reducible refine e_sub ?_ | ((with_reducible refine' e_cmp ?_ ?zh); (case zh => with_unfolding_all rfl)) | with_reducible refine e_bin ?_ | ((with_reducible refine' e_mcall ?_ ?zh); (case zh => rfl)) | ((with_reducible refine' e_call ?_ ?zh); (case zh => rfl)) | ((with_reducible refine' e_attr ?_ ?zh); (case zh => with_unfolding_all rfl)) | with_reducible refine e_list ?_ | with_reducible refine e_tup ?_ | with_reducible refine e_ifexp ?_) | (first | (with_reducible refine b_add ?_; intro _) | (with_reducible refine b_sub ?_; intro _) | ((with_reducible refine' b_mul ?zm ?_); (case zm => first | exact IntMulOk.of_left (intBits_le_64 (by omega) (by omega)) | exact IntMulOk.of_right (intBits_le_64 (by omega) (by omega))); intro _) | ((with_reducible refine' b_mod ?zn ?_); (case zn => omega); intro _) | ((with_reducible refine' b_div ?zn ?zm ?_); (case zn => omega); (case zm => omega); intro _) | with_reducible refine c_lt ?_ | with_reducible refine c_le ?_ | with_reducible refine c_gt ?_ | with_reducible refine c_ge ?_ | with_reducible refine c_eq ?_ | with_reducible refine c_ne ?_ | with_reducible refine tr_bool ?_ | ((with_reducible refine' t_cmp ?_ ?zh); (case zh => with_unfolding_all rfl)) | ((with_reducible refine' t_plain ?_ ?zh); (case zh => rfl))) | (first | with_reducible refine sp_nil ?_ | ((with_reducible refine' sp_cons ?_ ?zh); (case zh => rfl))) | (first | ((with_reducible refine' i_lst ?zD ?zm ?za ?zb ?zx ?_ ?zh); (case zD => assumption); (case zm => ((repeat (first | with_reducible exact List.mem_cons_self | with_reducible refine List.mem_cons_of_mem _ ?_)); done)); (case za => first | decide | omega); (case zb => first | decide | omega); (case zx => first | rfl | assumption); (case zh => with_unfolding_all rfl); (first | with_reducible refine AV.all_ref ?_ | (with_reducible refine AV.all_int ?_; intro _) | with_reducible refine AV.all_bool ?_ | with_reducible refine AV.all_none ?_ | (with_reducible refine AV.all_str ?_; intro _))) | ((with_reducible refine' i_tup ?zD ?zm ?za ?zb ?zj ?zx ?_ ?zh); (case zD => assumption); (case zm => ((repeat (first | with_reducible exact List.mem_cons_self | with_reducible refine List.mem_cons_of_mem _ ?_)); done)); (case za => decide); (case zb => decide); (case zj => rfl); (case zx => rfl); (case zh => with_unfolding_all rfl); (first | with_reducible refine AV.all_ref ?_ | (with_reducible refine AV.all_int ?_; intro _) | with_reducible refine AV.all_bool ?_ | with_reducible refine AV.all_none ?_ | (with_reducible refine AV.all_str ?_; intro _))) | ((with_reducible refine' s_lst ?zD ?za ?zb ?zn ?zv ?zu ?_); (case zD => assumption); (case za => decide); (case zb => decide); (case zv => (first | with_reducible exact AV.is_ref | with_reducible exact AV.is_int | with_reducible exact AV.is_bool | with_reducible exact AV.is_none | with_reducible exact AV.is_str | assumption)); (case zu => ((repeat (first | with_reducible exact UpdA.head | with_reducible refine UpdA.tail ?_)); done)); (case zn => (simp only [List.length_cons, List.length_nil]; decide)); dsimp only [List.set, Int.toNat]; intro _ _) | ((with_reducible refine' cw_b1 ?_ ?zh ?zp); (case zh => rfl); (case zp => rfl)) | with_reducible refine cw_b0 ?_ | ((with_reducible show W _ _ (call _ (_ ++ _) _) _ _); dsimp only [List.nil_append, List.cons_append]) | ((with_reducible refine' len_lst ?zD ?zm ?zz ?_); (case zD => assumption); (case zm => ((repeat (first | with_reducible exact List.mem_cons_self | with_reducible refine List.mem_cons_of_mem _ ?_)); done)); (case zz => (first | decide | (simp only [List.length_map, List.length_cons, List.length_nil]; omega))); intro _))))
  simp only [List.length_map]
  refine if_both (fun hb => ?_) (fun hb => ?_)
  · have hb := of_decide_eq_true hb
    (repeat (first | (first | with_reducible refine execs_cons ?_ | with_reducible refine kn_next ?_ | with_reducible refine kn_ret ?_ | with_reducible refine execs_nil ?_ | ((with_reducible refine' x_assign ?_ ?zh); (case zh => with_unfolding_all rfl)) | ((with_reducible refine' x_attr ?_ ?zh); (case zh => with_unfolding_all rfl)) | ((with_reducible refine' x_item ?_ ?zh); (case zh => with_unfolding_all rfl)) | with_reducible refine x_ret ?_ | with_reducible refine x_ret0 ?_ | with_reducible refine x_if ?_ | ((with_reducible refine' x_expr ?zf ?_ ?zh); (case zf => assumption); (case zh => with_unfolding_all rfl)) | ((with_reducible refine' st_loc ?zf ?zD ?zk ?zu ?zv ?_); (case zf => assumption); (case zD => assumption); (case zk => ((repeat (first | with_reducible exact List.mem_cons_self | with_reducible refine List.mem_cons_of_mem _ ?_)); done)); (case zu => ((repeat (first | with_reducible exact UpdL.head | with_reducible refine UpdL.tail ?_)); done)); (case zv => (first | with_reducible exact AV.is_ref | with_reducible exact AV.is_int | with_reducible exact AV.is_bool | with_reducible exact AV.is_none | with_reducible exact AV.is_str | assumption)); intro _ _ _)) | (first | ((with_reducible show W _ _ (eval (Expr.Name _ _) _) _ _); (first | ((with_reducible refine' n_loc ?zf ?zD ?zk ?zm ?_ ?zd); (case zf => assumption); (case zD => assumption); (case zk => ((repeat (first | with_reducible exact List.mem_cons_self | with_reducible refine List.mem_cons_of_mem _ ?_)); done)); (case zm => ((repeat (first | with_reducible exact List.mem_cons_self | with_reducible refine List.mem_cons_of_mem _ ?_)); done)); (case zd => decide); (first | with_reducible refine AV.all_ref ?_ | (with_reducible refine AV.all_int ?_; intro _) | with_reducible refine AV.all_bool ?_ | with_reducible refine AV.all_none ?_ | (with_reducible refine AV.all_str ?_; intro _))) | ((with_reducible refine' n_glob ?zf ?zD ?zk ?ze ?_ ?zd); (case zf => assumption); (case zD => assumption); (case zk => ((repeat (first | with_reducible exact List.mem_cons_self | with_reducible refine List.mem_cons_of_mem _ ?_)); done)); (case ze => k_is); (case zd => decide)) | ((with_reducible refine' n_blt ?zf ?zD ?zk ?ze ?zv ?_ ?zn ?zd); (case zf => assumption); (case zD => assumption); (case zk => ((repeat (first | with_reducible exact List.mem_cons_self | with_reducible refine List.mem_cons_of_mem _ ?_)); done)); (case ze => k_is); (case zv => boot_fast); (case zn => decide); (case zd => decide)) | ((with_reducible refine' n_cell ?zf ?zD ?zk ?zc ?zm ?_ ?zd); (case zf => assumption); (case zD => assumption); (case zk => ((repeat (first | with_reducible exact List.mem_cons_self | with_reducible refine List.mem_cons_of_mem _ ?_)); done)); (case zc => ((repeat (first | with_reducible exact List.mem_cons_self | with_reducible refine List.mem_cons_of_mem _ ?_)); done)); (case zm => ((repeat (first | with_reducible exact List.mem_cons_self | with_reducible refine List.mem_cons_of_mem _ ?_)); done)); (case zd => decide); (first | with_reducible refine AV.all_ref ?_ | (with_reducible refine AV.all_int ?_; intro _) | with_reducible refine AV.all_bool ?_ | with_reducible refine AV.all_none ?_ | (with_reducible refine AV.all_str ?_; intro _))) | ((with_reducible refine' n_free ?zf ?zD ?zk ?zc ?zm ?_ ?zd ?zn); (case zf => assumption); (case zD => assumption); (case zk => ((repeat (first | with_reducible exact List.mem_cons_self | with_reducible refine List.mem_cons_of_mem _ ?_)); done)); (case zc => ((repeat (first | with_reducible exact List.mem_cons_self | with_reducible refine List.mem_cons_of_mem _ ?_)); done)); (case zm => ((repeat (first | with_reducible exact List.mem_cons_self | with_reducible refine List.mem_cons_of_mem _ ?_)); done)); (case zd => decide); (case zn => decide); (first | with_reducible refine AV.all_ref ?_ | (with_reducible refine AV.all_int ?_; intro _) | with_reducible refine AV.all_bool ?_ | with_reducible refine AV.all_none ?_ | (with_reducible refine AV.all_str ?_; intro _))))) | (with_reducible refine l_int ?_; intro _) | with_reducible refine l_none ?_ | with_reducible refine l_bool ?_ | (with_reducible refine l_str ?_; intro _) | with_reducible refine e_attrN ?_ | with_reducible refine e_sub ?_ | ((with_reducible refine' e_cmp ?_ ?zh); (case zh => with_unfolding_all rfl)) | with_reducible refine e_bin ?_ | ((with_reducible refine' e_mcall ?_ ?zh); (case zh => rfl)) | ((with_reducible refine' e_call ?_ ?zh); (case zh => rfl)) | ((with_reducible refine' e_attr ?_ ?zh); (case zh => with_unfolding_all rfl)) | with_reducible refine e_list ?_ | with_reducible refine e_tup ?_ | with_reducible refine e_ifexp ?_) | (first | (with_reducible refine b_add ?_; intro _) | (with_reducible refine b_sub ?_; intro _) | ((with_reducible refine' b_mul ?zm ?_); (case zm => first | exact IntMulOk.of_left (intBits_le_64 (by omega) (by omega)) | exact IntMulOk.of_right (intBits_le_64 (by omega) (by omega))); intro _) | ((with_reducible refine' b_mod ?zn ?_); (case zn => omega); intro _) | ((with_reducible refine' b_div ?zn ?zm ?_); (case zn => omega); (case zm => omega); intro _) | with_reducible refine c_lt ?_ | with_reducible refine c_le ?_ | with_reducible refine c_gt ?_ | with_reducible refine c_ge ?_ | with_reducible refine c_eq ?_ | with_reducible refine c_ne ?_ | with_reducible refine tr_bool ?_ | ((with_reducible refine' t_cmp ?_ ?zh); (case zh => with_unfolding_all rfl)) | ((with_reducible refine' t_plain ?_ ?zh); (case zh => rfl))) | (first | with_reducible refine sp_nil ?_ | ((with_reducible refine' sp_cons ?_ ?zh); (case zh => rfl))) | (first | ((with_reducible refine' i_lst ?zD ?zm ?za ?zb ?zx ?_ ?zh); (case zD => assumption); (case zm => ((repeat (first | with_reducible exact List.mem_cons_self | with_reducible refine List.mem_cons_of_mem _ ?_)); done)); (case za => first | decide | omega); (case zb => first | decide | omega); (case zx => first | rfl | assumption); (case zh => with_unfolding_all rfl); (first | with_reducible refine AV.all_ref ?_ | (with_reducible refine AV.all_int ?_; intro _) | with_reducible refine AV.all_bool ?_ | with_reducible refine AV.all_none ?_ | (with_reducible refine AV.all_str ?_; intro _))) | ((with_reducible refine' i_tup ?zD ?zm ?za ?zb ?zj ?zx ?_ ?zh); (case zD => assumption); (case zm => ((repeat (first | with_reducible exact List.mem_cons_self | with_reducible refine List.mem_cons_of_mem _ ?_)); done)); (case za => decide); (case zb => decide); (case zj => rfl); (case zx => rfl); (case zh => with_unfolding_all rfl); (first | with_reducible refine AV.all_ref ?_ | (with_reducible refine AV.all_int ?_; intro _) | with_reducible refine AV.all_bool ?_ | with_reducible refine AV.all_none ?_ | (with_reducible refine AV.all_str ?_; intro _))) | ((with_reducible refine' s_lst ?zD ?za ?zb ?zn ?zv ?zu ?_); (case zD => assumption); (case za => decide); (case zb => decide); (case zv => (first | with_reducible exact AV.is_ref | with_reducible exact AV.is_int | with_reducible exact AV.is_bool | with_reducible exact AV.is_none | with_reducible exact AV.is_str | assumption)); (case zu => ((repeat (first | with_reducible exact UpdA.head | with_reducible refine UpdA.tail ?_)); done)); (case zn => (simp only [List.length_cons, List.length_nil]; decide)); dsimp only [List.set, Int.toNat]; intro _ _) | ((with_reducible refine' cw_b1 ?_ ?zh ?zp); (case zh => rfl); (case zp => rfl)) | with_reducible refine cw_b0 ?_ | ((with_reducible show W _ _ (call _ (_ ++ _) _) _ _); dsimp only [List.nil_append, List.cons_append]) | ((with_reducible refine' len_lst ?zD ?zm ?zz ?_); (case zD => assumption); (case zm => ((repeat (first | with_reducible exact List.mem_cons_self | with_reducible refine List.mem_cons_of_mem _ ?_)); done)); (case zz => (first | decide | (simp only [List.length_map, List.length_cons, List.length_nil]; omega))); intro _))))
    have hx : (ns.map AV.int)[(k + 1 - 1).toNat]? = some (.int (ns[k.toNat]'(by omega))) := by
      have e : (k + 1 - 1).toNat = k.toNat := by omega
      rw [e, List.getElem?_map, List.getElem?_eq_getElem (by omega)]; rfl
    (repeat (first | (first | with_reducible refine execs_cons ?_ | with_reducible refine kn_next ?_ | with_reducible refine kn_ret ?_ | with_reducible refine execs_nil ?_ | ((with_reducible refine' x_assign ?_ ?zh); (case zh => with_unfolding_all rfl)) | ((with_reducible refine' x_attr ?_ ?zh); (case zh => with_unfolding_all rfl)) | ((with_reducible refine' x_item ?_ ?zh); (case zh => with_unfolding_all rfl)) | with_reducible refine x_ret ?_ | with_reducible refine x_ret0 ?_ | with_reducible refine x_if ?_ | ((with_reducible refine' x_expr ?zf ?_ ?zh); (case zf => assumption); (case zh => with_unfolding_all rfl)) | ((with_reducible refine' st_loc ?zf ?zD ?zk ?zu ?zv ?_); (case zf => assumption); (case zD => assumption); (case zk => ((repeat (first | with_reducible exact List.mem_cons_self | with_reducible refine List.mem_cons_of_mem _ ?_)); done)); (case zu => ((repeat (first | with_reducible exact UpdL.head | with_reducible refine UpdL.tail ?_)); done)); (case zv => (first | with_reducible exact AV.is_ref | with_reducible exact AV.is_int | with_reducible exact AV.is_bool | with_reducible exact AV.is_none | with_reducible exact AV.is_str | assumption)); intro _ _ _)) | (first | ((with_reducible show W _ _ (eval (Expr.Name _ _) _) _ _); (first | ((with_reducible refine' n_loc ?zf ?zD ?zk ?zm ?_ ?zd); (case zf => assumption); (case zD => assumption); (case zk => ((repeat (first | with_reducible exact List.mem_cons_self | with_reducible refine List.mem_cons_of_mem _ ?_)); done)); (case zm => ((repeat (first | with_reducible exact List.mem_cons_self | with_reducible refine List.mem_cons_of_mem _ ?_)); done)); (case zd => decide); (first | with_reducible refine AV.all_ref ?_ | (with_reducible refine AV.all_int ?_; intro _) | with_reducible refine AV.all_bool ?_ | with_reducible refine AV.all_none ?_ | (with_reducible refine AV.all_str ?_; intro _))) | ((with_reducible refine' n_glob ?zf ?zD ?zk ?ze ?_ ?zd); (case zf => assumption); (case zD => assumption); (case zk => ((repeat (first | with_reducible exact List.mem_cons_self | with_reducible refine List.mem_cons_of_mem _ ?_)); done)); (case ze => k_is); (case zd => decide)) | ((with_reducible refine' n_blt ?zf ?zD ?zk ?ze ?zv ?_ ?zn ?zd); (case zf => assumption); (case zD => assumption); (case zk => ((repeat (first | with_reducible exact List.mem_cons_self | with_reducible refine List.mem_cons_of_mem _ ?_)); done)); (case ze => k_is); (case zv => boot_fast); (case zn => decide); (case zd => decide)) | ((with_reducible refine' n_cell ?zf ?zD ?zk ?zc ?zm ?_ ?zd); (case zf => assumption); (case zD => assumption); (case zk => ((repeat (first | with_reducible exact List.mem_cons_self | with_reducible refine List.mem_cons_of_mem _ ?_)); done)); (case zc => ((repeat (first | with_reducible exact List.mem_cons_self | with_reducible refine List.mem_cons_of_mem _ ?_)); done)); (case zm => ((repeat (first | with_reducible exact List.mem_cons_self | with_reducible refine List.mem_cons_of_mem _ ?_)); done)); (case zd => decide); (first | with_reducible refine AV.all_ref ?_ | (with_reducible refine AV.all_int ?_; intro _) | with_reducible refine AV.all_bool ?_ | with_reducible refine AV.all_none ?_ | (with_reducible refine AV.all_str ?_; intro _))) | ((with_reducible refine' n_free ?zf ?zD ?zk ?zc ?zm ?_ ?zd ?zn); (case zf => assumption); (case zD => assumption); (case zk => ((repeat (first | with_reducible exact List.mem_cons_self | with_reducible refine List.mem_cons_of_mem _ ?_)); done)); (case zc => ((repeat (first | with_reducible exact List.mem_cons_self | with_reducible refine List.mem_cons_of_mem _ ?_)); done)); (case zm => ((repeat (first | with_reducible exact List.mem_cons_self | with_reducible refine List.mem_cons_of_mem _ ?_)); done)); (case zd => decide); (case zn => decide); (first | with_reducible refine AV.all_ref ?_ | (with_reducible refine AV.all_int ?_; intro _) | with_reducible refine AV.all_bool ?_ | with_reducible refine AV.all_none ?_ | (with_reducible refine AV.all_str ?_; intro _))))) | (with_reducible refine l_int ?_; intro _) | with_reducible refine l_none ?_ | with_reducible refine l_bool ?_ | (with_reducible refine l_str ?_; intro _) | with_reducible refine e_attrN ?_ | with_reducible refine e_sub ?_ | ((with_reducible refine' e_cmp ?_ ?zh); (case zh => with_unfolding_all rfl)) | with_reducible refine e_bin ?_ | ((with_reducible refine' e_mcall ?_ ?zh); (case zh => rfl)) | ((with_reducible refine' e_call ?_ ?zh); (case zh => rfl)) | ((with_reducible refine' e_attr ?_ ?zh); (case zh => with_unfolding_all rfl)) | with_reducible refine e_list ?_ | with_reducible refine e_tup ?_ | with_reducible refine e_ifexp ?_) | (first | (with_reducible refine b_add ?_; intro _) | (with_reducible refine b_sub ?_; intro _) | ((with_reducible refine' b_mul ?zm ?_); (case zm => first | exact IntMulOk.of_left (intBits_le_64 (by omega) (by omega)) | exact IntMulOk.of_right (intBits_le_64 (by omega) (by omega))); intro _) | ((with_reducible refine' b_mod ?zn ?_); (case zn => omega); intro _) | ((with_reducible refine' b_div ?zn ?zm ?_); (case zn => omega); (case zm => omega); intro _) | with_reducible refine c_lt ?_ | with_reducible refine c_le ?_ | with_reducible refine c_gt ?_ | with_reducible refine c_ge ?_ | with_reducible refine c_eq ?_ | with_reducible refine c_ne ?_ | with_reducible refine tr_bool ?_ | ((with_reducible refine' t_cmp ?_ ?zh); (case zh => with_unfolding_all rfl)) | ((with_reducible refine' t_plain ?_ ?zh); (case zh => rfl))) | (first | with_reducible refine sp_nil ?_ | ((with_reducible refine' sp_cons ?_ ?zh); (case zh => rfl))) | (first | ((with_reducible refine' i_lst ?zD ?zm ?za ?zb ?zx ?_ ?zh); (case zD => assumption); (case zm => ((repeat (first | with_reducible exact List.mem_cons_self | with_reducible refine List.mem_cons_of_mem _ ?_)); done)); (case za => first | decide | omega); (case zb => first | decide | omega); (case zx => first | rfl | assumption); (case zh => with_unfolding_all rfl); (first | with_reducible refine AV.all_ref ?_ | (with_reducible refine AV.all_int ?_; intro _) | with_reducible refine AV.all_bool ?_ | with_reducible refine AV.all_none ?_ | (with_reducible refine AV.all_str ?_; intro _))) | ((with_reducible refine' i_tup ?zD ?zm ?za ?zb ?zj ?zx ?_ ?zh); (case zD => assumption); (case zm => ((repeat (first | with_reducible exact List.mem_cons_self | with_reducible refine List.mem_cons_of_mem _ ?_)); done)); (case za => decide); (case zb => decide); (case zj => rfl); (case zx => rfl); (case zh => with_unfolding_all rfl); (first | with_reducible refine AV.all_ref ?_ | (with_reducible refine AV.all_int ?_; intro _) | with_reducible refine AV.all_bool ?_ | with_reducible refine AV.all_none ?_ | (with_reducible refine AV.all_str ?_; intro _))) | ((with_reducible refine' s_lst ?zD ?za ?zb ?zn ?zv ?zu ?_); (case zD => assumption); (case za => decide); (case zb => decide); (case zv => (first | with_reducible exact AV.is_ref | with_reducible exact AV.is_int | with_reducible exact AV.is_bool | with_reducible exact AV.is_none | with_reducible exact AV.is_str | assumption)); (case zu => ((repeat (first | with_reducible exact UpdA.head | with_reducible refine UpdA.tail ?_)); done)); (case zn => (simp only [List.length_cons, List.length_nil]; decide)); dsimp only [List.set, Int.toNat]; intro _ _) | ((with_reducible refine' cw_b1 ?_ ?zh ?zp); (case zh => rfl); (case zp => rfl)) | with_reducible refine cw_b0 ?_ | ((with_reducible show W _ _ (call _ (_ ++ _) _) _ _); dsimp only [List.nil_append, List.cons_append]) | ((with_reducible refine' len_lst ?zD ?zm ?zz ?_); (case zD => assumption); (case zm => ((repeat (first | with_reducible exact List.mem_cons_self | with_reducible refine List.mem_cons_of_mem _ ?_)); done)); (case zz => (first | decide | (simp only [List.length_map, List.length_cons, List.length_nil]; omega))); intro _))))
    have hb := fmod_in (ns[k.toNat]'(by omega)) (b := many) (by omega)
    exact ST.fin (by assumption) fun D => hret _ _ _ hb.1 hb.2 D
  · have hb := of_decide_eq_false hb
    (repeat (first | (first | with_reducible refine execs_cons ?_ | with_reducible refine kn_next ?_ | with_reducible refine kn_ret ?_ | with_reducible refine execs_nil ?_ | ((with_reducible refine' x_assign ?_ ?zh); (case zh => with_unfolding_all rfl)) | ((with_reducible refine' x_attr ?_ ?zh); (case zh => with_unfolding_all rfl)) | ((with_reducible refine' x_item ?_ ?zh); (case zh => with_unfolding_all rfl)) | with_reducible refine x_ret ?_ | with_reducible refine x_ret0 ?_ | with_reducible refine x_if ?_ | ((with_reducible refine' x_expr ?zf ?_ ?zh); (case zf => assumption); (case zh => with_unfolding_all rfl)) | ((with_reducible refine' st_loc ?zf ?zD ?zk ?zu ?zv ?_); (case zf => assumption); (case zD => assumption); (case zk => ((repeat (first | with_reducible exact List.mem_cons_self | with_reducible refine List.mem_cons_of_mem _ ?_)); done)); (case zu => ((repeat (first | with_reducible exact UpdL.head | with_reducible refine UpdL.tail ?_)); done)); (case zv => (first | with_reducible exact AV.is_ref | with_reducible exact AV.is_int | with_reducible exact AV.is_bool | with_reducible exact AV.is_none | with_reducible exact AV.is_str | assumption)); intro _ _ _)) | (first | ((with_reducible show W _ _ (eval (Expr.Name _ _) _) _ _); (first | ((with_reducible refine' n_loc ?zf ?zD ?zk ?zm ?_ ?zd); (case zf => assumption); (case zD => assumption); (case zk => ((repeat (first | with_reducible exact List.mem_cons_self | with_reducible refine List.mem_cons_of_mem _ ?_)); done)); (case zm => ((repeat (first | with_reducible exact List.mem_cons_self | with_reducible refine List.mem_cons_of_mem _ ?_)); done)); (case zd => decide); (first | with_reducible refine AV.all_ref ?_ | (with_reducible refine AV.all_int ?_; intro _) | with_reducible refine AV.all_bool ?_ | with_reducible refine AV.all_none ?_ | (with_reducible refine AV.all_str ?_; intro _))) | ((with_reducible refine' n_glob ?zf ?zD ?zk ?ze ?_ ?zd); (case zf => assumption); (case zD => assumption); (case zk => ((repeat (first | with_reducible exact List.mem_cons_self | with_reducible refine List.mem_cons_of_mem _ ?_)); done)); (case ze => k_is); (case zd => decide)) | ((with_reducible refine' n_blt ?zf ?zD ?zk ?ze ?zv ?_ ?zn ?zd); (case zf => assumption); (case zD => assumption); (case zk => ((repeat (first | with_reducible exact List.mem_cons_self | with_reducible refine List.mem_cons_of_mem _ ?_)); done)); (case ze => k_is); (case zv => boot_fast); (case zn => decide); (case zd => decide)) | ((with_reducible refine' n_cell ?zf ?zD ?zk ?zc ?zm ?_ ?zd); (case zf => assumption); (case zD => assumption); (case zk => ((repeat (first | with_reducible exact List.mem_cons_self | with_reducible refine List.mem_cons_of_mem _ ?_)); done)); (case zc => ((repeat (first | with_reducible exact List.mem_cons_self | with_reducible refine List.mem_cons_of_mem _ ?_)); done)); (case zm => ((repeat (first | with_reducible exact List.mem_cons_self | with_reducible refine List.mem_cons_of_mem _ ?_)); done)); (case zd => decide); (first | with_reducible refine AV.all_ref ?_ | (with_reducible refine AV.all_int ?_; intro _) | with_reducible refine AV.all_bool ?_ | with_reducible refine AV.all_none ?_ | (with_reducible refine AV.all_str ?_; intro _))) | ((with_reducible refine' n_free ?zf ?zD ?zk ?zc ?zm ?_ ?zd ?zn); (case zf => assumption); (case zD => assumption); (case zk => ((repeat (first | with_reducible exact List.mem_cons_self | with_reducible refine List.mem_cons_of_mem _ ?_)); done)); (case zc => ((repeat (first | with_reducible exact List.mem_cons_self | with_reducible refine List.mem_cons_of_mem _ ?_)); done)); (case zm => ((repeat (first | with_reducible exact List.mem_cons_self | with_reducible refine List.mem_cons_of_mem _ ?_)); done)); (case zd => decide); (case zn => decide); (first | with_reducible refine AV.all_ref ?_ | (with_reducible refine AV.all_int ?_; intro _) | with_reducible refine AV.all_bool ?_ | with_reducible refine AV.all_none ?_ | (with_reducible refine AV.all_str ?_; intro _))))) | (with_reducible refine l_int ?_; intro _) | with_reducible refine l_none ?_ | with_reducible refine l_bool ?_ | (with_reducible refine l_str ?_; intro _) | with_reducible refine e_attrN ?_ | with_reducible refine e_sub ?_ | ((with_reducible refine' e_cmp ?_ ?zh); (case zh => with_unfolding_all rfl)) | with_reducible refine e_bin ?_ | ((with_reducible refine' e_mcall ?_ ?zh); (case zh => rfl)) | ((with_reducible refine' e_call ?_ ?zh); (case zh => rfl)) | ((with_reducible refine' e_attr ?_ ?zh); (case zh => with_unfolding_all rfl)) | with_reducible refine e_list ?_ | with_reducible refine e_tup ?_ | with_reducible refine e_ifexp ?_) | (first | (with_reducible refine b_add ?_; intro _) | (with_reducible refine b_sub ?_; intro _) | ((with_reducible refine' b_mul ?zm ?_); (case zm => first | exact IntMulOk.of_left (intBits_le_64 (by omega) (by omega)) | exact IntMulOk.of_right (intBits_le_64 (by omega) (by omega))); intro _) | ((with_reducible refine' b_mod ?zn ?_); (case zn => omega); intro _) | ((with_reducible refine' b_div ?zn ?zm ?_); (case zn => omega); (case zm => omega); intro _) | with_reducible refine c_lt ?_ | with_reducible refine c_le ?_ | with_reducible refine c_gt ?_ | with_reducible refine c_ge ?_ | with_reducible refine c_eq ?_ | with_reducible refine c_ne ?_ | with_reducible refine tr_bool ?_ | ((with_reducible refine' t_cmp ?_ ?zh); (case zh => with_unfolding_all rfl)) | ((with_reducible refine' t_plain ?_ ?zh); (case zh => rfl))) | (first | with_reducible refine sp_nil ?_ | ((with_reducible refine' sp_cons ?_ ?zh); (case zh => rfl))) | (first | ((with_reducible refine' i_lst ?zD ?zm ?za ?zb ?zx ?_ ?zh); (case zD => assumption); (case zm => ((repeat (first | with_reducible exact List.mem_cons_self | with_reducible refine List.mem_cons_of_mem _ ?_)); done)); (case za => first | decide | omega); (case zb => first | decide | omega); (case zx => first | rfl | assumption); (case zh => with_unfolding_all rfl); (first | with_reducible refine AV.all_ref ?_ | (with_reducible refine AV.all_int ?_; intro _) | with_reducible refine AV.all_bool ?_ | with_reducible refine AV.all_none ?_ | (with_reducible refine AV.all_str ?_; intro _))) | ((with_reducible refine' i_tup ?zD ?zm ?za ?zb ?zj ?zx ?_ ?zh); (case zD => assumption); (case zm => ((repeat (first | with_reducible exact List.mem_cons_self | with_reducible refine List.mem_cons_of_mem _ ?_)); done)); (case za => decide); (case zb => decide); (case zj => rfl); (case zx => rfl); (case zh => with_unfolding_all rfl); (first | with_reducible refine AV.all_ref ?_ | (with_reducible refine AV.all_int ?_; intro _) | with_reducible refine AV.all_bool ?_ | with_reducible refine AV.all_none ?_ | (with_reducible refine AV.all_str ?_; intro _))) | ((with_reducible refine' s_lst ?zD ?za ?zb ?zn ?zv ?zu ?_); (case zD => assumption); (case za => decide); (case zb => decide); (case zv => (first | with_reducible exact AV.is_ref | with_reducible exact AV.is_int | with_reducible exact AV.is_bool | with_reducible exact AV.is_none | with_reducible exact AV.is_str | assumption)); (case zu => ((repeat (first | with_reducible exact UpdA.head | with_reducible refine UpdA.tail ?_)); done)); (case zn => (simp only [List.length_cons, List.length_nil]; decide)); dsimp only [List.set, Int.toNat]; intro _ _) | ((with_reducible refine' cw_b1 ?_ ?zh ?zp); (case zh => rfl); (case zp => rfl)) | with_reducible refine cw_b0 ?_ | ((with_reducible show W _ _ (call _ (_ ++ _) _) _ _); dsimp only [List.nil_append, List.cons_append]) | ((with_reducible refine' len_lst ?zD ?zm ?zz ?_); (case zD => assumption); (case zm => ((repeat (first | with_reducible exact List.mem_cons_self | with_reducible refine List.mem_cons_of_mem _ ?_)); done)); (case zz => (first | decide | (simp only [List.length_map, List.length_cons, List.length_nil]; omega))); intro _))))
    exact ST.fin (by assumption) fun D => hret _ _ _ (fmod_in _ (by omega)).1 (fmod_in _ (by omega)).2 D
end
variable {P : LamP}
noncomputable def dOk (ns : List Int) (j : Int) : Prop := (∀ x ∈ ns, 0 ≤ x) ∧ ns.length ≤ 63 ∧ 0 ≤ j ∧ j < 1000
noncomputable def drawS : Spec := fun d s vs k => match d, vs with
  | _ + 1, [.loc i, .int m] => (match s.os[i]? with
    | some (.lst [.nums ns, .int j]) => dOk ns j ∧ (match m == 2 with
      | true => putK s i (.lst [.nums ns, .int (j + 1)]) (k (.int 0)) ∧ putK s i (.lst [.nums ns, .int (j + 1)]) (k (.int 1))
      | false => (match m == 4 with
        | true => putK s i (.lst [.nums ns, .int (j + 1)]) (k (.int 0)) ∧ putK s i (.lst [.nums ns, .int (j + 1)]) (k (.int 1)) ∧ putK s i (.lst [.nums ns, .int (j + 1)]) (k (.int 2)) ∧ putK s i (.lst [.nums ns, .int (j + 1)]) (k (.int 3))
        | false => (match decide (2 ≤ m) && decide (m ≤ 10) with
          | true => ∀ r : Int, 0 ≤ r → r < m → putK s i (.lst [.nums ns, .int (j + 1)]) (k (.int r))
          | false => False)))
    | _ => False)
  | _, _ => False
theorem UpdA.rest {d : Addr} {x x' : AObj} {l l' : List (Addr × AObj)} (u : UpdA d x x' l l') : ∃ r, l.Perm ((d, x) :: r) ∧ l'.Perm ((d, x') :: r) := by
  induction u with
  | @head r => exact ⟨r, .refl _, .refl _⟩
  | @tail p r r' _ ih =>
    obtain ⟨z, h1, h2⟩ := ih
    exact ⟨p :: z, (h1.cons p).trans (.swap _ _ _), (h2.cons p).trans (.swap _ _ _)⟩
theorem mem_rest {p : Addr × AObj} {l : List (Addr × AObj)} (h : p ∈ l) : ∃ r, l.Perm (p :: r) := by
  obtain ⟨a, b, rfl⟩ := List.append_of_mem h
  exact ⟨a ++ b, List.perm_middle⟩
theorem lst2_get {o : Option B} {Q : List Int → Int → Prop} (e : match o with
    | some (.lst [.nums ns, .int j]) => Q ns j
    | _ => False) : ∃ ns j, o = some (.lst [.nums ns, .int j]) ∧ Q ns j := by
  cases o <;> first | exact e.elim | skip
  rename_i b
  cases b <;> first | exact e.elim | skip
  rename_i vs
  cases vs <;> first | exact e.elim | skip
  rename_i v vs
  cases v <;> first | exact e.elim | skip
  rename_i ns
  cases vs <;> first | exact e.elim | skip
  rename_i v vs
  cases v <;> first | exact e.elim | skip
  rename_i j
  cases vs <;> first | exact e.elim | exact ⟨ns, j, rfl, e⟩
theorem two_get {d : Nat} {us : List U} {Q : Nat → Int → Prop} (e : match d, us with
    | _ + 1, [.loc i, .int m] => Q i m
    | _, _ => False) : ∃ n i m, d = n + 1 ∧ us = [.loc i, .int m] ∧ Q i m := by
  cases d <;> first | exact e.elim | skip
  cases us <;> first | exact e.elim | skip
  rename_i v vs
  cases v <;> first | exact e.elim | skip
  rename_i i
  cases vs <;> first | exact e.elim | skip
  rename_i v vs
  cases v <;> first | exact e.elim | skip
  rename_i m
  cases vs <;> first | exact e.elim | exact ⟨_, i, m, rfl, rfl, e⟩
theorem draw_ok {c : Cx} {A : Around} {env : Env} {nm : List (Str × NameKind)} {L : Addr} {cl : List (Str × Addr)} {g h : Heap} {m : Str → Option Value} {own : List (Addr × AObj)} {ω : Wd} {s : St} {d : Nat} {us : List U} {vs : List Value} {k : U → St → Prop}
    (e : drawS d s us k) (f : FO (Mine.hd.heap_1 c.w.params) c A env nm L cl g d) (R : Rel P c g L own ω m s h) (hv : VIs P ω us vs) : W c A (call (.ref 1068) vs) h (Post P c g L own ω m k) := by
  obtain ⟨d', i, mm, rfl, rfl, e2⟩ := two_get e
  clear e
  have e := e2
  clear e2
  · obtain ⟨ns, j, hi, e2⟩ := lst2_get e
    clear e
    · obtain ⟨⟨d1, d2, d3, d4⟩, e⟩ := e2
      obtain ⟨y1, y2, rfl, hy1, hy2⟩ := hv.two_is
      obtain ⟨D, hD, rfl⟩ := hy1.loc
      obtain ⟨t, rfl⟩ := hy2.int
      refine (R).use fun ls l h1 h2 S => ?_
      obtain ⟨x, q1, q2, q3⟩ := turn_at (c := c) (g := g) (L := L) (m := m) (own := own) (o' := .lst [.nums ns, .int (j + 1)]) h1 h2 hi hD
      cases q2 with
      | lst p4 =>
      cases p4 with
      | cons a1 a2 =>
      cases a2 with
      | cons b1 b2 =>
      cases b2
      cases b1
      cases a1 with
      | @nums _ DC hDC =>
      obtain ⟨l', q4, q5⟩ := q3 _ (.lst (.cons (.nums hDC) (.cons .int .nil)))
      obtain ⟨r, r1, r2⟩ := q4.rest
      have hm : (DC, AObj.lst (ns.map .int)) ∈ (D, AObj.lst [.ref DC, .int j]) :: r := r1.mem_iff.mp (List.mem_append_right _ (List.mem_append_left _ hDC))
      have hm' : (DC, AObj.lst (ns.map .int)) ∈ r := by
        rcases List.mem_cons.mp hm with q | q
        · exfalso
          have nd := S.ld.nd
          obtain ⟨e1, e2⟩ := Prod.mk.inj q
          have := (r2.mem_iff (a := (DC, AObj.lst (ns.map .int)))).mp
          have key : (DC, AObj.lst (ns.map .int)) ∈ l ++ (ω.τ ++ own) := List.mem_append_right _ (List.mem_append_left _ hDC)
          rw [List.map_append, List.nodup_append] at nd
          exact nd.2.2 D (List.mem_map_of_mem q1) DC (List.mem_map_of_mem (List.mem_append_left own hDC)) e1.symm
        · exact q
      obtain ⟨r', r3⟩ := mem_rest hm'
      have S' : ST c g L m ls h ((D, .lst [.ref DC, .int j]) :: (DC, .lst (ns.map .int)) :: r') := ⟨S.lo, S.ld.perm ((r1.trans (r3.cons _)).symm)⟩
      have fin : ∀ (v : Int) t h', ST c g L m ls h' ((D, .lst [.ref DC, .int (j + 1)]) :: (DC, .lst (ns.map .int)) :: r') → putK s i (.lst [.nums ns, .int (j + 1)]) (k (.int v)) → Post P c g L own ω m k (.int v t) h' := fun v t h' S₂ kk =>
        ⟨ω, .int v, _, .refl, q5 h' ⟨S₂.lo, S₂.ld.perm (r2.trans (r3.cons _))⟩, .of_int, putK_is kk⟩
      split at e
      · rename_i hm2
        have hm2 := eq_of_beq hm2
        subst hm2
        refine c_draw f S' d1 d2 d3 d4 (by omega) (by omega) fun v t h' v0 v1 S₂ => ?_
        have : v = 0 ∨ v = 1 := by omega
        rcases this with rfl | rfl
        · exact fin _ t h' S₂ e.1
        · exact fin _ t h' S₂ e.2
      · split at e
        · rename_i hm4
          have hm4 := eq_of_beq hm4
          subst hm4
          refine c_draw f S' d1 d2 d3 d4 (by omega) (by omega) fun v t h' v0 v1 S₂ => ?_
          have : v = 0 ∨ v = 1 ∨ v = 2 ∨ v = 3 := by omega
          rcases this with rfl | rfl | rfl | rfl
          · exact fin _ t h' S₂ e.1
          · exact fin _ t h' S₂ e.2.1
          · exact fin _ t h' S₂ e.2.2.1
          · exact fin _ t h' S₂ e.2.2.2
        · split at e
          · rename_i hb
            simp only [Bool.and_eq_true, decide_eq_true_eq] at hb
            exact c_draw f S' d1 d2 d3 d4 hb.1 hb.2 fun v t h' v0 v1 S₂ => fin _ t h' S₂ (e v v0 v1)
          · exact e.elim
noncomputable def mc : Mc := ⟨tabs, fnT, fun fa => match Nat.beq fa 1068 with
  | true => some drawS
  | false => none⟩
theorem sp_ok_mc {c : Cx} : SpOk P (Mine.hd.heap_1 c.w.params) mc c := fun fa q hq {d s us k} e {A env nm L cl g own ω m h vs} f R hv => by
  unfold mc at hq
  dsimp only at hq
  split at hq
  · rename_i hfa
    have hfa := Nat.eq_of_beq_eq_true hfa
    subst hfa
    cases hq
    exact draw_ok e f R hv
  · cases hq
end Mine
namespace Mine
noncomputable def lawBody : List Stmt := match fnT 1085 with
  | some f => f.body
  | none => []
noncomputable def loopBody : List Stmt := match lawBody.drop 11 with
  | .For _ _ b _ _ :: _ => b
  | _ => []
noncomputable def lamA : Arguments := ⟨[], [⟨("number" : Str), none, ⟨734, 68, 734, 74⟩⟩], none, [], [], none, []⟩
noncomputable def lamB : Expr := .Compare (.Name ("number" : Str) ⟨734, 76, 734, 82⟩) [.Gt] [.Constant (.int 0) 0 ⟨734, 85, 734, 86⟩] ⟨734, 76, 734, 86⟩
noncomputable def lamS : Scope := ⟨.function, [(("number" : Str), .local)], false, false, []⟩
noncomputable def lamPos : Pos := ⟨734, 61, 734, 86⟩
theorem lam_names : lamS.names = [(("number" : Str), NameKind.local)] := by kernel_rfl
theorem lam_kind : (lamS.isCoroutine, lamS.isGenerator, lamS.kind) = (false, false, .function) := by kernel_rfl
theorem lam_body : ∃ p1 k p2 p3, lamB = .Compare (.Name ("number" : Str) p1) [.Gt] [.Constant (.int 0) k p2] p3 := ⟨⟨734, 76, 734, 82⟩, 0, ⟨734, 85, 734, 86⟩, ⟨734, 76, 734, 86⟩, by kernel_rfl⟩
theorem lam_bind (qual : Str) (pm : Value) (c' : Addr) (ctv v : Value) : bindArgs (kla_fn "<lambda>" qual lamA lamB lamS [] pm (.ref c') ctv) ⟨[v], []⟩ = pure [(("number" : Str), v)] := by kernel_rfl
noncomputable def lamP : LamP := fun o c' oc => ∃ qual pm ctv t vs, o = kla_obj "<lambda>" qual lamA lamB lamS [] pm c' ctv ∧ oc.data = .fields vs ∧ vs[1]? = some (.str qual t)
theorem lam_call {K : Frag} {c : Cx} {A : Around} {env : Env} {nm : List (Str × NameKind)} {L : Addr} {cl : List (Str × Addr)} {g h : Heap} {n : Nat} {m : Str → Option Value} {ls : List (Str × Option AV)} {l : List (Addr × AObj)} {a c' : Addr} {o oc : Obj} {i : Int} {t : Tok} {Q : Value → Heap → Prop}
    (f : FO K c A env nm L cl g (n + 1)) (S : ST c g L m ls h l) (ha : (a, .raw o) ∈ l) (hc : (c', .raw oc) ∈ l) (hp : lamP o c' oc) (q : ∀ h', ST c g L m ls h' l → Q (.bool (decide (0 < i))) h') : W c A (call (.ref a) [.int i t]) h Q := fun tk => by
  obtain ⟨qual, pm, ctv, t', vs, rfl, hd, hv⟩ := hp
  obtain ⟨r, hr, N⟩ := S.ld.nw
  obtain ⟨p, loose, mean, mg, mb, T⟩ := f.T
  obtain ⟨A₀, base, outer, B, hA⟩ := f.B
  obtain ⟨cn, cs, a', ccd, he, hn', hkd⟩ := f.env_
  obtain ⟨o1, k1, e1⟩ := hr.mem ha
  cases e1
  obtain ⟨o2, k2, e2⟩ := hr.mem hc
  cases e2
  have lk := lam_kind
  simp only [Prod.mk.injEq] at lk
  refine wpAny_call (kla_code (s := ⟨h, c.g, c.d, tk, c.o⟩) B S.ld.fr f.X N T hA (by rw [he]) (by rw [he]; exact hkd) k1 (codeRec_news N k2 hd hv) (by have := f.dp; unfold recursionLimit; omega) (lam_bind _ _ _ _ _) (fun y hy => ?_) (fun g' L' h₁ FG F' N' B' X' T' => ?_) lk.1 lk.2.1 lk.2.2 ?_)
  · rw [List.mem_singleton] at hy
    subst hy
    rw [lam_names]; rfl
  · have hnn : (lamS.names.map (·.1)).Nodup := by rw [lam_names]; exact (by simp)
    have fo := f.push (qual := qual) (sc := lamS) (L' := L') (fa := a) (cd := .ref c') (cl' := []) hA B' (fun b o e => FG.keep b o e) lk.2.2 hnn .nil
    have S' : ST c g' L' (fun y => [(("number" : Str), Value.int i t)].reverse.lookup y) [(("number" : Str), some (.int i))] h₁ l := by
      refine ⟨⟨(by simp), fun x av hm => ?_⟩, F', S.ld.nd, r, hr, N'⟩
      rw [List.mem_singleton] at hm
      cases hm
      exact ⟨_, by simp, t, rfl⟩
    obtain ⟨p1, k, p2, p3, hb⟩ := lam_body
    have w : W c (A.deeper (envX qual lamS L' a (.ref c') [])) (eval lamB (envX qual lamS L' a (.ref c') [])) h₁ (fun v h₂ => v = .bool (decide (0 < i)) ∧ h₂ = h₁) := by
      rw [hb]
      refine e_cmp (n_loc fo S' (by rw [lam_names]; exact .head _) (.head _) (AV.all_int fun t₁ => l_int fun t₂ => c_gt ⟨rfl, rfl⟩) (by decide)) rfl
    refine wpAny_mono (w _) (fun v s' hs => ?_) fun _ _ x => x.elim
    obtain ⟨h₂, tk₂, rfl, rfl, rfl⟩ := hs
    exact ⟨_, _, _, F', N', fun F'' N'' => ⟨_, _, rfl, q _ ⟨S.lo, F'', S.ld.nd, r, hr, N''⟩⟩⟩
  · rw [lam_names]
    intro x hx
    rw [List.mem_singleton] at hx
    subst hx; decide
theorem lam_ok {K : Frag} {c : Cx} : LamOk lamP K c := by
  intro A env₀ nm L cl g n m ls h l a o c' oc e env pos Q f S ha hp hs k tk
  obtain ⟨qual, pm, ctv, t', vs, rfl, hd, hv⟩ := id hp
  obtain ⟨r, hr, N⟩ := S.ld.nw
  obtain ⟨o1, k1, e1⟩ := hr.mem ha
  cases e1
  refine callWith_F (s := ⟨h, c.g, c.d, tk, c.o⟩) (FnAt.of N k1) (k.use fun vs' h₁ tk₁ q => ?_) (star_no hs) rfl
  obtain ⟨i, t, ls₁, l₁, rfl, S₁, h1, h2, q⟩ := q
  obtain ⟨r₁, hr₁, N₁⟩ := S₁.ld.nw
  obtain ⟨o2, k2, e2⟩ := hr₁.mem h1
  cases e2
  exact ⟨FnAt.of N₁ k2, lam_call f S₁ h1 h2 hp q tk₁⟩
noncomputable def tabOf : Option Addr → Array Value
  | none => #[]
  | some c' => #[rawInt lamPos.line, rawInt lamPos.col, .ref c']
theorem e_lam {K : Frag} {c : Cx} {A : Around} {nm : List (Str × NameKind)} {L : Addr} {cl : List (Str × Addr)} {g h : Heap} {n : Nat} {m : Str → Option Value} {ls : List (Str × Option AV)} {l : List (Addr × AObj)} {cA PA : Addr} {cn : Str} {cs : Scope} {fa : Addr} {Q : Value → Heap → Prop}
    (f : FO K c A (envX cn cs L fa (.ref cA) cl) nm L cl g n) (C : CodeHd g cA PA) {tb : Option Addr} (S : ST c g L m ls h ((PA, .raw (tabObj (tabOf tb))) :: l))
    (hq : ∀ c', tb = some c' → ∃ oc t vs, (c', AObj.raw oc) ∈ l ∧ oc.data = .fields vs ∧ vs[1]? = some (.str ((envX cn cs L fa (.ref cA) cl).qual ++ "<lambda>") t))
    (q : ∀ a o c' oc h' lc, lamP o c' oc → ST c g L m ls h' ((a, .raw o) :: (PA, .raw (tabObj (tabOf (some c')))) :: (lc ++ l)) → (lc = [(c', .raw oc)] ∨ (lc = [] ∧ tb = some c' ∧ (c', .raw oc) ∈ l)) → (∃ t vs, oc.data = .fields vs ∧ vs[1]? = some (.str ((envX cn cs L fa (.ref cA) cl).qual ++ "<lambda>") t)) → Q (.ref a) h') :
    W c A (eval (.Lambda lamA lamB lamS lamPos) (envX cn cs L fa (.ref cA) cl)) h Q := fun tk => by
  obtain ⟨p, loose, mean, mg, mb, T⟩ := f.T
  obtain ⟨r, hr, N⟩ := S.ld.nw
  have hclos : closureFor lamS (envX cn cs L fa (.ref cA) cl) = pure [] := closureFor_none fun x hx => by
    rw [lam_names, List.mem_singleton] at hx
    subst hx; decide
  refine kla_eval (s := ⟨h, c.g, c.d, tk, c.o⟩) (by kernel_rfl) ?_
  cases tb with
  | none =>
    cases hr with
    | @cons _ _ oP _ r e1 hr =>
    cases e1
    refine kla_nest (s := ⟨h, c.g, c.d, tk, c.o⟩) S.ld.fr N T C rfl (.head fun p hp e => ?_) trivial rfl hclos fun a c' oc vs t ctv h' tk' F' N' hd hv hlt hlt2 => ?_
    · have nd := S.ld.nd
      rw [List.map_cons, List.nodup_cons, ← hr.keys] at nd
      exact nd.1 (e ▸ List.mem_map_of_mem hp)
    · have nd := S.ld.nd
      have kl : ∀ z ∈ PA :: l.map (·.1), z < c' := fun z hz => by
        rcases List.mem_cons.mp hz with rfl | hz
        · exact hlt _ (.head _)
        · rw [← hr.keys] at hz
          obtain ⟨p, hp, rfl⟩ := List.mem_map.mp hz
          exact hlt p (.tail _ hp)
      refine ⟨h', tk', rfl, q a (kla_obj "<lambda>" ((envX cn cs L fa (.ref cA) cl).qual ++ "<lambda>") lamA lamB lamS [] ((mg "__name__").getD .none) c' ctv) c' oc h' [(c', .raw oc)] ⟨_, _, _, t, vs, rfl, hd, hv⟩ ⟨S.lo, F', ?_, _, .cons rfl (.cons (o := tabObj (tabOf (some c'))) rfl (.cons (o := oc) rfl hr)), fun p hp => ?_⟩ (.inl rfl) ⟨t, vs, hd, hv⟩⟩
      · show (a :: PA :: c' :: l.map (·.1)).Nodup
        have nd : (PA :: l.map (·.1)).Nodup := nd
        have n1 : PA ≠ c' := Nat.ne_of_lt (kl PA (.head _))
        have n2 : ∀ z ∈ l.map (·.1), z ≠ c' := fun z hz => Nat.ne_of_lt (kl z (.tail _ hz))
        have n3 : ∀ z ∈ PA :: l.map (·.1), z ≠ a := fun z hz => Nat.ne_of_lt (Nat.lt_trans (kl z hz) hlt2)
        rw [List.nodup_cons] at nd
        simp only [List.nodup_cons, List.mem_cons, not_or]
        exact ⟨⟨Ne.symm (n3 PA (.head _)), Nat.ne_of_gt hlt2, fun z => n3 a (.tail _ z) rfl⟩, ⟨n1, nd.1⟩, fun z => n2 c' z rfl, nd.2⟩
      · rcases List.mem_cons.mp hp with rfl | hp
        · exact N' _ (.head _)
        rcases List.mem_cons.mp hp with rfl | hp
        · exact N' _ (.tail _ (.tail _ (.head _)))
        rcases List.mem_cons.mp hp with rfl | hp
        · exact N' _ (.tail _ (.head _))
        · exact N' _ (.tail _ (.tail _ (.tail _ hp)))
  | some c' =>
    obtain ⟨oc, t, vs, hm, hd, hv⟩ := hq c' rfl
    have hm' := hm
    obtain ⟨oc', k1, e1⟩ := hr.mem (.tail _ hm)
    cases e1
    have hr' := hr
    cases hr with
    | @cons _ _ oP _ r e1 hr =>
    cases e1
    refine kla_hit (s := ⟨h, c.g, c.d, tk, c.o⟩) (c' := c') S.ld.fr N T C rfl (.head _) ?_ ?_ hclos fun a ctv h' tk' F' N' hlt => ?_
    · simp [tabOf, TriplesOk, rawInt]
    · simp [tabOf, codeAmong, rawInt]
    · refine ⟨h', tk', rfl, q a (kla_obj "<lambda>" ((envX cn cs L fa (.ref cA) cl).qual ++ "<lambda>") lamA lamB lamS [] ((mg "__name__").getD .none) c' ctv) c' oc h' [] ⟨_, _, _, t, vs, rfl, hd, hv⟩ ⟨S.lo, F', ?_, _, .cons rfl hr', N'⟩ (.inr ⟨rfl, rfl, hm⟩) ⟨t, vs, hd, hv⟩⟩
      rw [List.map_cons, List.nodup_cons]
      refine ⟨fun hz => ?_, S.ld.nd⟩
      have hz : a ∈ ((PA, AObj.raw (tabObj (tabOf (some c')))) :: l).map (·.1) := hz
      rw [← hr'.keys] at hz
      obtain ⟨p, hp, e⟩ := List.mem_map.mp hz
      have := hlt p hp
      rw [e] at this
      exact Nat.lt_irrefl _ this
end Mine
namespace Mine
variable {P : LamP}
noncomputable def pkU (ks fr : List Nat) (os : List B) : U → Option U
  | .loc i => (match ks.idxOf? i with
    | some j => some (.loc j)
    | none => match fr.contains i with
      | true => (match os[i]? with
        | some (.lst vs) => (match vs.mapM rowU with
          | some rs => some (.rows rs)
          | none => none)
        | _ => none)
      | false => none)
  | v => some v
noncomputable def pkUs (ks fr : List Nat) (os : List B) : List U → Option (List U)
  | [] => some []
  | v :: r => (match pkU ks fr os v, pkUs ks fr os r with
    | some v, some r => some (v :: r)
    | _, _ => none)
noncomputable def pkFs (ks fr : List Nat) (os : List B) : List (Str × U) → Option (List (Str × U))
  | [] => some []
  | (x, v) :: r => (match pkU ks fr os v, pkFs ks fr os r with
    | some v, some r => some ((x, v) :: r)
    | _, _ => none)
noncomputable def pkIs (ks fr : List Nat) (os : List B) : List (Int × U) → Option (List (Int × U))
  | [] => some []
  | (x, v) :: r => (match pkU ks fr os v, pkIs ks fr os r with
    | some v, some r => some ((x, v) :: r)
    | _, _ => none)
noncomputable def pkLs (ks fr : List Nat) (os : List B) : List (Str × Option U) → List (Str × Option U)
  | [] => []
  | (x, none) :: r => (x, none) :: pkLs ks fr os r
  | (x, some v) :: r => (x, pkU ks fr os v) :: pkLs ks fr os r
noncomputable def pkB (ks fr : List Nat) (os : List B) : B → Option B
  | .inst C dx => (match ks.idxOf? dx with
    | some j => some (.inst C j)
    | none => none)
  | .attrs fs => (match pkFs ks fr os fs with
    | some fs => some (.attrs fs)
    | none => none)
  | .lst vs => (match pkUs ks fr os vs with
    | some fs => some (.lst fs)
    | none => none)
  | .idict vs => (match pkIs ks fr os vs with
    | some fs => some (.idict fs)
    | none => none)
  | .raw o => some (.raw o)
  | .cell none => some (.cell none)
  | .cell (some v) => (match pkU ks fr os v with
    | some v => some (.cell (some v))
    | none => none)
noncomputable def pkOs (ks fr : List Nat) (os : List B) : List Nat → Option (List B)
  | [] => some []
  | k :: r => (match os[k]? with
    | some o => (match pkB ks fr os o, pkOs ks fr os r with
      | some o, some r => some (o :: r)
      | _, _ => none)
    | none => none)
noncomputable def nodupN : List Nat → Bool
  | [] => true
  | x :: r => !r.contains x && nodupN r
noncomputable def pick (ks fr : List Nat) (s : St) : Option St := match nodupN (ks ++ fr), pkOs ks fr s.os ks with
  | true, some os => some ⟨pkLs ks fr s.os s.ls, os⟩
  | _, _ => none
theorem nodupN_is : ∀ {l : List Nat}, nodupN l = true → l.Nodup
  | [], _ => .nil
  | x :: r, h => by
    unfold nodupN at h
    rw [Bool.and_eq_true] at h
    rw [List.nodup_cons]
    exact ⟨by simpa using h.1, nodupN_is h.2⟩
section
variable {c : Cx} {A : Around} {L : Addr} {g h : Heap} {m : Str → Option Value} {own : List (Addr × AObj)} {ω : Wd} {s : St}
theorem ZR.nth {as : List Addr} {os : List B} {l : List (Addr × AObj)} (h : ZR P ω as os l) {i : Nat} {o : B} (e : os[i]? = some o) : ∃ a x, as[i]? = some a ∧ l[i]? = some (a, x) ∧ BR P ω o x := by
  induction h generalizing i with
  | nil => cases e
  | @cons a o' x as os l q _ ih =>
    cases i with
    | zero => simp only [List.getElem?_cons_zero, Option.some.injEq] at e; subst e; exact ⟨a, x, rfl, rfl, q⟩
    | succ i => exact ih e
noncomputable def atN (l : List (Addr × AObj)) (ks : List Nat) : List (Addr × AObj) := ks.filterMap (l[·]?)
theorem atN_sub {l : List (Addr × AObj)} {ks : List Nat} : ∀ p ∈ atN l ks, p ∈ l := fun p hp => by
  obtain ⟨k, _, e⟩ := List.mem_filterMap.mp hp
  exact List.mem_of_getElem? e
theorem atN_nodup {l : List (Addr × AObj)} (nd : (l.map (·.1)).Nodup) : ∀ {ks : List Nat}, ks.Nodup → ((atN l ks).map (·.1)).Nodup
  | [], _ => .nil
  | k :: ks, h => by
    rw [List.nodup_cons] at h
    unfold atN
    rw [List.filterMap_cons]
    cases e : l[k]? with
    | none => exact atN_nodup nd h.2
    | some p =>
      rw [List.map_cons, List.nodup_cons]
      refine ⟨fun hm => ?_, atN_nodup nd h.2⟩
      obtain ⟨q, hq, e1⟩ := List.mem_map.mp hm
      obtain ⟨k', hk', e2⟩ := List.mem_filterMap.mp hq
      have pw := List.pairwise_iff_getElem.mp nd
      obtain ⟨l1, b1⟩ := List.getElem?_eq_some_iff.mp e
      obtain ⟨l2, b2⟩ := List.getElem?_eq_some_iff.mp e2
      have c1 : (l.map (·.1))[k]'(by simpa using l1) = p.1 := by simp [b1]
      have c2 : (l.map (·.1))[k']'(by simpa using l2) = q.1 := by simp [b2]
      have hne : k ≠ k' := fun z => h.1 (z ▸ hk')
      rcases Nat.lt_or_gt_of_ne hne with z | z
      · exact pw k k' (by simpa using l1) (by simpa using l2) z (c1.trans (e1.symm.trans c2.symm))
      · exact pw k' k (by simpa using l2) (by simpa using l1) z (c2.trans (e1.trans c1.symm))
theorem idxOf_get : ∀ {ks : List Nat} {i j : Nat}, ks.idxOf? i = some j → ks[j]? = some i
  | [], _, _, h => by cases h
  | k :: ks, i, j, h => by
    rw [List.idxOf?_cons] at h
    split at h
    · rename_i e; cases h; rw [eq_of_beq e]; rfl
    · cases e : ks.idxOf? i with
      | none => rw [e] at h; cases h
      | some j' => rw [e] at h; cases h; show ks[j']? = some i; exact idxOf_get e
theorem rows_of {vs : List U} {xs : List AV} {rs : List Rw} (h : URs P ω vs xs) (e : vs.mapM rowU = some rs) : RRs ω.τ rs xs := by
  induction h generalizing rs with
  | nil => simp at e; subst e; exact .nil
  | @cons v w vs ws q hr ih =>
    rw [List.mapM_cons] at e
    cases e1 : rowU v with
    | none => rw [e1] at e; cases e
    | some r =>
      rw [e1] at e
      cases e2 : vs.mapM rowU with
      | none => rw [e2] at e; cases e
      | some r2 =>
        rw [e2] at e
        cases e
        obtain ⟨b, rfl, q2⟩ := rowU_is q e1
        exact .cons q2 (ih e2)
variable {ks fr : List Nat} {l : List (Addr × AObj)}
noncomputable def pkW (ks fr : List Nat) (ω : Wd) (l : List (Addr × AObj)) : Wd := ⟨(atN l ks).map (·.1), atN l fr ++ ω.τ⟩
theorem atN_get {os : List B} (hz : ZR P ω ω.σ os l) : ∀ {ks : List Nat}, (∀ k ∈ ks, k < os.length) → ∀ {j k : Nat} {a : Addr}, ks[j]? = some k → ω.σ[k]? = some a → ((atN l ks).map (·.1))[j]? = some a
  | [], _, j, k, a, h, _ => by simp at h
  | k' :: ks, hb, j, k, a, h, ha => by
    obtain ⟨o, ho⟩ : ∃ o, os[k']? = some o := ⟨_, List.getElem?_eq_getElem (hb k' (.head _))⟩
    obtain ⟨a', x, h1, h2, h3⟩ := hz.nth ho
    unfold atN
    rw [List.filterMap_cons, h2]
    cases j with
    | zero =>
      simp only [List.getElem?_cons_zero, Option.some.injEq] at h
      subst h
      rw [h1] at ha; cases ha
      rfl
    | succ j => exact atN_get hz (fun q hq => hb q (.tail _ hq)) (by simpa using h) ha
theorem pkU_ok {os : List B} (hz : ZR P ω ω.σ os l) (hb : ∀ k ∈ ks, k < os.length) {v v' : U} {x : AV} (h : UR P ω v x) (e : pkU ks fr os v = some v') : UR P (pkW ks fr ω l) v' x := by
  have hτ : ∀ p ∈ ω.τ, p ∈ (pkW ks fr ω l).τ := fun p hp => List.mem_append_right _ hp
  cases h
  case loc i a ha =>
    unfold pkU at e
    dsimp only at e
    split at e
    · rename_i j hj
      cases e
      exact .loc (atN_get hz hb (idxOf_get hj) ha)
    · split at e
      · rename_i hf
        split at e
        · rename_i vs hi
          split at e
          · rename_i rs hrs
            cases e
            obtain ⟨a', y, h1, h2, h3⟩ := hz.nth hi
            rw [ha] at h1; cases h1
            cases h3 with
            | lst h4 =>
            refine .rows (List.mem_append_left _ (List.mem_filterMap.mpr ⟨i, by simpa using hf, h2⟩)) ((rows_of h4 hrs).mono hτ)
          · cases e
        · cases e
      · cases e
  all_goals cases e
  · exact .none
  · exact .bool
  · exact .int
  · exact .str
  · exact .glob
  · rename_i q; exact .tup (hτ _ q)
  · rename_i q r; exact .rows (hτ _ q) (r.mono hτ)
  · rename_i q; exact .nums (hτ _ q)
  · rename_i q r p; exact .lam (hτ _ q) (hτ _ r) p
theorem pkUs_ok {os : List B} (hz : ZR P ω ω.σ os l) (hb : ∀ k ∈ ks, k < os.length) {v v' : List U} {x : List AV} (h : URs P ω v x) (e : pkUs ks fr os v = some v') : URs P (pkW ks fr ω l) v' x := by
  induction h generalizing v' with
  | nil => cases e; exact .nil
  | cons q _ ih =>
    unfold pkUs at e
    split at e
    · rename_i e1 e2; cases e; exact .cons (pkU_ok hz hb q e1) (ih e2)
    · cases e
theorem pkFs_ok {os : List B} (hz : ZR P ω ω.σ os l) (hb : ∀ k ∈ ks, k < os.length) {v v' : List (Str × U)} {x : List (Str × AV)} (h : FRs P ω v x) (e : pkFs ks fr os v = some v') : FRs P (pkW ks fr ω l) v' x := by
  induction h generalizing v' with
  | nil => cases e; exact .nil
  | cons q _ ih =>
    unfold pkFs at e
    split at e
    · rename_i e1 e2; cases e; exact .cons (pkU_ok hz hb q e1) (ih e2)
    · cases e
theorem pkIs_ok {os : List B} (hz : ZR P ω ω.σ os l) (hb : ∀ k ∈ ks, k < os.length) {v v' : List (Int × U)} {x : List (Int × AV)} (h : IRs P ω v x) (e : pkIs ks fr os v = some v') : IRs P (pkW ks fr ω l) v' x := by
  induction h generalizing v' with
  | nil => cases e; exact .nil
  | cons q _ ih =>
    unfold pkIs at e
    split at e
    · rename_i e1 e2; cases e; exact .cons (pkU_ok hz hb q e1) (ih e2)
    · cases e
theorem pkLs_ok {os : List B} (hz : ZR P ω ω.σ os l) (hb : ∀ k ∈ ks, k < os.length) {v : List (Str × Option U)} {x : List (Str × Option AV)} (h : LRs P ω v x) : ∃ x', LRs P (pkW ks fr ω l) (pkLs ks fr os v) x' ∧ x'.map (·.1) = x.map (·.1) ∧ ∀ y a, (y, some a) ∈ x' → (y, some a) ∈ x := by
  induction h with
  | nil => exact ⟨[], .nil, rfl, fun _ _ h => nomatch h⟩
  | @nay y vs xs _ ih =>
    obtain ⟨x', h1, h2, h3⟩ := ih
    refine ⟨(y, none) :: x', .nay h1, by simp [h2], fun z a hz => ?_⟩
    rcases List.mem_cons.mp hz with q | q
    · cases q
    · exact .tail _ (h3 z a q)
  | @yea y v w vs xs q _ ih =>
    obtain ⟨x', h1, h2, h3⟩ := ih
    unfold pkLs
    cases e : pkU ks fr os v with
    | none =>
      refine ⟨(y, none) :: x', .nay h1, by simp [h2], fun z a hz => ?_⟩
      rcases List.mem_cons.mp hz with q | q
      · cases q
      · exact .tail _ (h3 z a q)
    | some v' =>
      refine ⟨(y, some w) :: x', .yea (pkU_ok hz hb q e) h1, by simp [h2], fun z a hz => ?_⟩
      rcases List.mem_cons.mp hz with q | q
      · cases q; exact .head _
      · exact .tail _ (h3 z a q)
theorem pkB_ok {os : List B} (hz : ZR P ω ω.σ os l) (hb : ∀ k ∈ ks, k < os.length) {v v' : B} {x : AObj} (h : BR P ω v x) (e : pkB ks fr os v = some v') : BR P (pkW ks fr ω l) v' x := by
  cases h with
  | inst q =>
    unfold pkB at e
    dsimp only at e
    split at e
    · rename_i j hj; cases e; exact .inst (atN_get hz hb (idxOf_get hj) q)
    · cases e
  | attrs q =>
    unfold pkB at e
    dsimp only at e
    split at e
    · rename_i j hj; cases e; exact .attrs (pkFs_ok hz hb q hj)
    · cases e
  | lst q =>
    unfold pkB at e
    dsimp only at e
    split at e
    · rename_i j hj; cases e; exact .lst (pkUs_ok hz hb q hj)
    · cases e
  | idict q =>
    unfold pkB at e
    dsimp only at e
    split at e
    · rename_i j hj; cases e; exact .idict (pkIs_ok hz hb q hj)
    · cases e
  | cell0 => cases e; exact .cell0
  | raw => cases e; exact .raw
  | cell1 q =>
    unfold pkB at e
    dsimp only at e
    split at e
    · rename_i j hj; cases e; exact .cell1 (pkU_ok hz hb q hj)
    · cases e
theorem pkOs_len {os : List B} : ∀ {js : List Nat} {os' : List B}, pkOs ks fr os js = some os' → ∀ k ∈ js, k < os.length
  | [], _, _, k, h => nomatch h
  | j :: js, os', e, k, h => by
    unfold pkOs at e
    split at e
    · rename_i o ho
      split at e
      · rename_i e1 e2
        rcases List.mem_cons.mp h with rfl | h
        · exact (List.getElem?_eq_some_iff.mp ho).1
        · exact pkOs_len e2 k h
      · cases e
    · cases e
theorem pkOs_ok {os : List B} (hz : ZR P ω ω.σ os l) (hb : ∀ k ∈ ks, k < os.length) : ∀ {js : List Nat} {os' : List B}, pkOs ks fr os js = some os' → ZR P (pkW ks fr ω l) ((atN l js).map (·.1)) os' (atN l js)
  | [], os', e => by cases e; exact .nil
  | j :: js, os', e => by
    unfold pkOs at e
    split at e
    · rename_i o ho
      split at e
      · rename_i o' r e1 e2
        cases e
        obtain ⟨a, x, h1, h2, h3⟩ := hz.nth ho
        have : atN l (j :: js) = (a, x) :: atN l js := by unfold atN; rw [List.filterMap_cons, h2]
        rw [this]
        exact .cons (pkB_ok hz hb h3 e1) (pkOs_ok hz hb e2)
      · cases e
    · cases e
theorem pick_ok {s' : St} (R : Rel P c g L own ω m s h) (e : pick ks fr s = some s') : ∃ ω', Rel P c g L own ω' m s' h ∧ (∀ p ∈ ω.τ, p ∈ ω'.τ) ∧ ∀ (j k : Nat) (a : Addr), ks[j]? = some k → ω.σ[k]? = some a → ω'.σ[j]? = some a := by
  unfold pick at e
  split at e
  · rename_i os hn hos
    cases e
    have hn := nodupN_is hn
    refine (R).use fun ls l h1 h2 S => ?_
    have hb := pkOs_len hos
    obtain ⟨ls', k1, k2, k3⟩ := pkLs_ok (fr := fr) h2 hb h1
    refine ⟨pkW ks fr ω l, ⟨ls', atN l ks, k1, pkOs_ok h2 hb hos, ⟨⟨by rw [k2]; exact S.lo.nd, fun x av hm => S.lo.at_ x av (k3 x av hm)⟩, S.ld.sub (fun p hp => ?_) ?_⟩⟩, fun p hp => List.mem_append_right _ hp, fun j k a hj hk => atN_get h2 hb hj hk⟩
    · rcases List.mem_append.mp hp with hp | hp
      · exact List.mem_append_left _ (atN_sub p hp)
      · rcases List.mem_append.mp hp with hp | hp
        · rcases List.mem_append.mp hp with hp | hp
          · exact List.mem_append_left _ (atN_sub p hp)
          · exact List.mem_append_right _ (List.mem_append_left _ hp)
        · exact List.mem_append_right _ (List.mem_append_right _ hp)
    · have nd := S.ld.nd
      rw [List.map_append, List.nodup_append] at nd
      obtain ⟨n1, n2, n3⟩ := nd
      have na := atN_nodup n1 hn
      have ea : atN l (ks ++ fr) = atN l ks ++ atN l fr := by unfold atN; rw [List.filterMap_append]
      rw [ea] at na
      show ((atN l ks ++ ((atN l fr ++ ω.τ) ++ own)).map (·.1)).Nodup
      rw [show atN l ks ++ ((atN l fr ++ ω.τ) ++ own) = (atN l ks ++ atN l fr) ++ (ω.τ ++ own) by simp only [List.append_assoc], List.map_append, List.nodup_append]
      refine ⟨na, n2, fun x hx y hy => n3 x ?_ y hy⟩
      obtain ⟨p, hp, rfl⟩ := List.mem_map.mp hx
      refine List.mem_map_of_mem ?_
      rcases List.mem_append.mp hp with hp | hp <;> exact atN_sub p hp
  · cases e
end
end Mine
namespace Mine
variable {P : LamP}
noncomputable def fgLs (xs : List Str) : List (Str × Option U) → List (Str × Option U)
  | [] => []
  | (x, v) :: r => (match xs.contains x with
    | true => (x, none) :: fgLs xs r
    | false => (x, v) :: fgLs xs r)
theorem fgLs_ok {ω : Wd} {xs : List Str} {v : List (Str × Option U)} {x : List (Str × Option AV)} (h : LRs P ω v x) : ∃ x', LRs P ω (fgLs xs v) x' ∧ x'.map (·.1) = x.map (·.1) ∧ ∀ y a, (y, some a) ∈ x' → (y, some a) ∈ x := by
  induction h with
  | nil => exact ⟨[], .nil, rfl, fun _ _ h => nomatch h⟩
  | @nay y vs ws _ ih =>
    obtain ⟨x', h1, h2, h3⟩ := ih
    refine ⟨(y, none) :: x', ?_, by simp [h2], fun z a hz => ?_⟩
    · unfold fgLs; split <;> exact .nay h1
    · rcases List.mem_cons.mp hz with q | q
      · cases q
      · exact .tail _ (h3 z a q)
  | @yea y v w vs ws q _ ih =>
    obtain ⟨x', h1, h2, h3⟩ := ih
    unfold fgLs
    split
    · refine ⟨(y, none) :: x', .nay h1, by simp [h2], fun z a hz => ?_⟩
      rcases List.mem_cons.mp hz with q | q
      · cases q
      · exact .tail _ (h3 z a q)
    · refine ⟨(y, some w) :: x', .yea q h1, by simp [h2], fun z a hz => ?_⟩
      rcases List.mem_cons.mp hz with q | q
      · cases q; exact .head _
      · exact .tail _ (h3 z a q)
theorem fg_ok {c : Cx} {L : Addr} {g h : Heap} {m : Str → Option Value} {own : List (Addr × AObj)} {ω : Wd} {s : St} (xs : List Str) (R : Rel P c g L own ω m s h) : Rel P c g L own ω m ⟨fgLs xs s.ls, s.os⟩ h := by
  refine (R).use fun ls l h1 h2 S => ?_
  obtain ⟨x', k1, k2, k3⟩ := fgLs_ok (xs := xs) h1
  exact ⟨x', l, k1, h2, ⟨⟨by rw [k2]; exact S.lo.nd, fun x av hm => S.lo.at_ x av (k3 x av hm)⟩, S.ld⟩⟩
noncomputable def tidy (ks fr : List Nat) (fg : List Str) (Q : St → Prop) (s : St) : Prop := match pick ks fr s with
  | some s' => Q ⟨fgLs fg s'.ls, s'.os⟩
  | none => False
noncomputable def nextK (Q : St → Prop) (ret : U → St → Prop) : Fl → St → Prop
  | .next, s => Q s
  | .ret v, s => ret v s
noncomputable def osA (R : B) (ns : List Int) (j hb hs hp hh : Int) (hd : Bool) (he hl : List Rw) (cur p1 p2 p3 p4 : Int) : List B := [
  .lst [U.nums ns, U.int j],
  .cell (some (U.loc 10)),
  .cell (some (U.loc 3)),
  .inst 893 4,
  .attrs [(("number" : Str), (U.int 1)), (("sort" : Str), (U.int 0)), (("parent" : Str), (U.int 2)), (("children" : Str), (U.loc 11)), (("left" : Str), (U.int 0)), (("top" : Str), (U.int 0)), (("width" : Str), (U.int 10)), (("height" : Str), (U.int 6)), (("buffer" : Str), U.int hb), (("start" : Str), U.int hs), (("point" : Str), U.int hp), (("hscroll" : Str), U.int hh), (("is_dedicated" : Str), U.bool hd), (("use_time" : Str), (U.int 1)), (("earlier" : Str), U.rows he), (("later" : Str), U.rows hl)],
  R,
  .inst 893 7,
  .attrs [(("number" : Str), (U.int 3)), (("sort" : Str), (U.int 0)), (("parent" : Str), (U.int 2)), (("children" : Str), (U.loc 12)), (("left" : Str), (U.int 10)), (("top" : Str), (U.int 0)), (("width" : Str), (U.int 10)), (("height" : Str), (U.int 6)), (("buffer" : Str), (U.int 1)), (("start" : Str), (U.int 1)), (("point" : Str), (U.int 1)), (("hscroll" : Str), (U.int 0)), (("is_dedicated" : Str), (U.bool false)), (("use_time" : Str), (U.int 0)), (("earlier" : Str), (U.rows [])), (("later" : Str), (U.rows []))],
  .lst [(U.tup [1, 1, 1, 0]), (U.rows []), (U.rows []), (U.bool false)],
  .lst [(U.loc 13), (U.loc 14), (U.loc 15), (U.loc 16)],
  .inst 536 17,
  .lst [],
  .lst [],
  .inst 733 18,
  .inst 733 19,
  .inst 733 20,
  .inst 733 21,
  .attrs [(("buffers" : Str), (U.loc 22)), (("commands" : Str), (U.loc 23)), (("global_map" : Str), (U.loc 24)), (("local_maps" : Str), (U.loc 25)), (("minor_maps" : Str), (U.loc 26)), (("question_map" : Str), U.none), (("questions" : Str), U.none), (("asker" : Str), U.none), (("kills" : Str), U.none), (("registers" : Str), U.none), (("abbrevs" : Str), U.none), (("windows" : Str), (U.loc 27)), (("files" : Str), U.none), (("machine" : Str), U.none), (("rules" : Str), U.none), (("further" : Str), U.none), (("matches" : Str), U.none), (("loop" : Str), U.none), (("goals" : Str), (U.loc 28)), (("undoing" : Str), (U.loc 29)), (("marks" : Str), (U.loc 30)), (("amalgam" : Str), (U.loc 31)), (("message" : Str), (U.str "")), (("is_echo_old" : Str), (U.bool false)), (("is_shifting" : Str), (U.bool false)), (("signal_text" : Str), U.none), (("panes" : Str), U.none), (("modes" : Str), U.none), (("fill_column" : Str), (U.int 70)), (("tab_width" : Str), (U.int 8)), (("rectangle" : Str), (U.loc 32)), (("last_expansion" : Str), U.none), (("replacing" : Str), U.none)],
  .attrs [(("number" : Str), (U.int 1)), (("name" : Str), (U.str "buffer0")), (("text" : Str), (U.loc 33)), (("markers" : Str), (U.loc 34)), (("point" : Str), U.int p1), (("begv" : Str), (U.int 1)), (("zv" : Str), (U.int 10)), (("mark" : Str), U.none), (("is_live" : Str), (U.bool true)), (("is_read_only" : Str), (U.bool false)), (("ticks" : Str), (U.int 2)), (("codes_ticks" : Str), (U.int 2)), (("saved_ticks" : Str), (U.int 1)), (("listeners" : Str), (U.loc 35)), (("undo" : Str), U.none), (("props" : Str), U.none), (("overlays" : Str), U.none), (("locals" : Str), U.none), (("syntax" : Str), U.none), (("file" : Str), U.none)],
  .attrs [(("number" : Str), (U.int 2)), (("name" : Str), (U.str "buffer1")), (("text" : Str), (U.loc 36)), (("markers" : Str), (U.loc 37)), (("point" : Str), U.int p2), (("begv" : Str), (U.int 1)), (("zv" : Str), (U.int 10)), (("mark" : Str), U.none), (("is_live" : Str), (U.bool true)), (("is_read_only" : Str), (U.bool false)), (("ticks" : Str), (U.int 2)), (("codes_ticks" : Str), (U.int 2)), (("saved_ticks" : Str), (U.int 1)), (("listeners" : Str), (U.loc 38)), (("undo" : Str), U.none), (("props" : Str), U.none), (("overlays" : Str), U.none), (("locals" : Str), U.none), (("syntax" : Str), U.none), (("file" : Str), U.none)],
  .attrs [(("number" : Str), (U.int 3)), (("name" : Str), (U.str "buffer2")), (("text" : Str), (U.loc 39)), (("markers" : Str), (U.loc 40)), (("point" : Str), U.int p3), (("begv" : Str), (U.int 1)), (("zv" : Str), (U.int 10)), (("mark" : Str), U.none), (("is_live" : Str), (U.bool true)), (("is_read_only" : Str), (U.bool false)), (("ticks" : Str), (U.int 2)), (("codes_ticks" : Str), (U.int 2)), (("saved_ticks" : Str), (U.int 1)), (("listeners" : Str), (U.loc 41)), (("undo" : Str), U.none), (("props" : Str), U.none), (("overlays" : Str), U.none), (("locals" : Str), U.none), (("syntax" : Str), U.none), (("file" : Str), U.none)],
  .attrs [(("number" : Str), (U.int 4)), (("name" : Str), (U.str "buffer3")), (("text" : Str), (U.loc 42)), (("markers" : Str), (U.loc 43)), (("point" : Str), U.int p4), (("begv" : Str), (U.int 1)), (("zv" : Str), (U.int 10)), (("mark" : Str), U.none), (("is_live" : Str), (U.bool true)), (("is_read_only" : Str), (U.bool false)), (("ticks" : Str), (U.int 2)), (("codes_ticks" : Str), (U.int 2)), (("saved_ticks" : Str), (U.int 1)), (("listeners" : Str), (U.loc 44)), (("undo" : Str), U.none), (("props" : Str), U.none), (("overlays" : Str), U.none), (("locals" : Str), U.none), (("syntax" : Str), U.none), (("file" : Str), U.none)],
  .inst 837 45,
  .inst 190 46,
  .inst 263 47,
  .idict [],
  .lst [],
  .inst 964 48,
  .idict [],
  .idict [],
  .idict [],
  .inst 38 49,
  .lst [],
  .inst 627 50,
  .inst 368 51,
  .lst [],
  .inst 627 52,
  .inst 368 53,
  .lst [],
  .inst 627 54,
  .inst 368 55,
  .lst [],
  .inst 627 56,
  .inst 368 57,
  .lst [],
  .attrs [(("rows" : Str), (U.loc 58)), (("order" : Str), (U.loc 59)), (("current" : Str), U.int cur), (("last_number" : Str), (U.int 4)), (("last_marker" : Str), (U.int 0)), (("listeners" : Str), (U.loc 60))],
  .attrs [(("rows" : Str), (U.loc 61))],
  .attrs [(("prompt" : Str), (U.str "")), (("rows" : Str), (U.loc 62)), (("has_default" : Str), (U.bool false)), (("default" : Str), U.none), (("parent" : Str), U.none)],
  .attrs [(("windows" : Str), (U.loc 63)), (("last" : Str), (U.int 3)), (("clock" : Str), (U.int 1)), (("least_width" : Str), (U.int 3)), (("least_height" : Str), (U.int 2)), (("root" : Str), (U.int 2)), (("selected" : Str), (U.int 1))],
  .attrs [(("sort" : Str), (U.str "")), (("many" : Str), (U.int 0))],
  .attrs [(("room" : Str), (U.int 8)), (("cells" : Str), (U.loc 64)), (("gap_start" : Str), (U.int 9)), (("gap_end" : Str), (U.int 17))],
  .attrs [(("rows" : Str), (U.loc 65))],
  .attrs [(("room" : Str), (U.int 8)), (("cells" : Str), (U.loc 66)), (("gap_start" : Str), (U.int 9)), (("gap_end" : Str), (U.int 17))],
  .attrs [(("rows" : Str), (U.loc 67))],
  .attrs [(("room" : Str), (U.int 8)), (("cells" : Str), (U.loc 68)), (("gap_start" : Str), (U.int 9)), (("gap_end" : Str), (U.int 17))],
  .attrs [(("rows" : Str), (U.loc 69))],
  .attrs [(("room" : Str), (U.int 8)), (("cells" : Str), (U.loc 70)), (("gap_start" : Str), (U.int 9)), (("gap_end" : Str), (U.int 17))],
  .attrs [(("rows" : Str), (U.loc 71))],
  .idict [((1 : Int), (U.loc 13)), ((2 : Int), (U.loc 14)), ((3 : Int), (U.loc 15)), ((4 : Int), (U.loc 16))],
  .lst [(U.int 1), (U.int 2), (U.int 3), (U.int 4)],
  .lst [],
  .idict [],
  .idict [],
  .idict [((1 : Int), (U.loc 3)), ((2 : Int), (U.loc 72)), ((3 : Int), (U.loc 6))],
  .lst [(U.int 97), (U.int 97), (U.int 97), (U.int 97), (U.int 97), (U.int 97), (U.int 97), (U.int 97), (U.int 97), (U.int 0), (U.int 0), (U.int 0), (U.int 0), (U.int 0), (U.int 0), (U.int 0), (U.int 0)],
  .idict [],
  .lst [(U.int 97), (U.int 97), (U.int 97), (U.int 97), (U.int 97), (U.int 97), (U.int 97), (U.int 97), (U.int 97), (U.int 0), (U.int 0), (U.int 0), (U.int 0), (U.int 0), (U.int 0), (U.int 0), (U.int 0)],
  .idict [],
  .lst [(U.int 97), (U.int 97), (U.int 97), (U.int 97), (U.int 97), (U.int 97), (U.int 97), (U.int 97), (U.int 97), (U.int 0), (U.int 0), (U.int 0), (U.int 0), (U.int 0), (U.int 0), (U.int 0), (U.int 0)],
  .idict [],
  .lst [(U.int 97), (U.int 97), (U.int 97), (U.int 97), (U.int 97), (U.int 97), (U.int 97), (U.int 97), (U.int 97), (U.int 0), (U.int 0), (U.int 0), (U.int 0), (U.int 0), (U.int 0), (U.int 0), (U.int 0)],
  .idict [],
  .inst 893 73,
  .attrs [(("number" : Str), (U.int 2)), (("sort" : Str), (U.int 2)), (("parent" : Str), (U.int 0)), (("children" : Str), (U.loc 74)), (("left" : Str), (U.int 0)), (("top" : Str), (U.int 0)), (("width" : Str), (U.int 20)), (("height" : Str), (U.int 6)), (("buffer" : Str), (U.int 0)), (("start" : Str), (U.int 1)), (("point" : Str), (U.int 1)), (("hscroll" : Str), (U.int 0)), (("is_dedicated" : Str), (U.bool false)), (("use_time" : Str), (U.int 0)), (("earlier" : Str), (U.loc 75)), (("later" : Str), (U.loc 76))],
  .lst [(U.int 1), (U.int 3)],
  .lst [],
  .lst []]
noncomputable def mkA (way oc sp : Option U) (R : B) (ns : List Int) (j hb hs hp hh : Int) (hd : Bool) (he hl : List Rw) (cur p1 p2 p3 p4 : Int) : St := ⟨[("script", none), ("deck", (some (.loc 0))), ("nth", none), ("own_made", (some (.loc 9))), ("own_buffer", none), ("second", none), ("there", (some (.loc 6))), ("record", (some (.loc 5))), ("untouched", (some (.loc 8))), ("way", way), ("own_choice", oc), ("spot", sp)], osA R ns j hb hs hp hh hd he hl cur p1 p2 p3 p4⟩
noncomputable def ksA : List Nat := [0, 1, 2, 113, 112, 158, 136, 135, 161, 76, 15, 114, 137, 25, 38, 51, 64, 14, 24, 37, 50, 63, 4, 9, 12, 16, 17, 110, 18, 19, 20, 22, 23, 28, 34, 36, 41, 47, 49, 54, 60, 62, 67, 73, 75, 3, 8, 11, 109, 21, 27, 33, 40, 46, 53, 59, 66, 72, 5, 6, 7, 10, 13, 111, 32, 35, 45, 48, 58, 61, 71, 74, 126, 125, 146, 128, 129]
noncomputable def frA : List Nat := [115, 116, 139, 140, 156, 157, 159, 160]
noncomputable def osB (R : B) (ns : List Int) (j hb hs hp hh : Int) (hd : Bool) (he hl : List Rw) (cur p1 p2 p3 p4 : Int) : List B := [
  .lst [U.nums ns, U.int j],
  .cell (some (U.loc 10)),
  .cell (some (U.loc 3)),
  .inst 893 4,
  .attrs [(("number" : Str), (U.int 3)), (("sort" : Str), (U.int 0)), (("parent" : Str), (U.int 2)), (("children" : Str), (U.loc 11)), (("left" : Str), (U.int 10)), (("top" : Str), (U.int 0)), (("width" : Str), (U.int 10)), (("height" : Str), (U.int 6)), (("buffer" : Str), U.int hb), (("start" : Str), U.int hs), (("point" : Str), U.int hp), (("hscroll" : Str), U.int hh), (("is_dedicated" : Str), U.bool hd), (("use_time" : Str), (U.int 2)), (("earlier" : Str), U.rows he), (("later" : Str), U.rows hl)],
  R,
  .inst 893 7,
  .attrs [(("number" : Str), (U.int 1)), (("sort" : Str), (U.int 0)), (("parent" : Str), (U.int 2)), (("children" : Str), (U.loc 12)), (("left" : Str), (U.int 0)), (("top" : Str), (U.int 0)), (("width" : Str), (U.int 10)), (("height" : Str), (U.int 6)), (("buffer" : Str), (U.int 1)), (("start" : Str), (U.int 1)), (("point" : Str), (U.int 1)), (("hscroll" : Str), (U.int 0)), (("is_dedicated" : Str), (U.bool false)), (("use_time" : Str), (U.int 1)), (("earlier" : Str), (U.rows [])), (("later" : Str), (U.rows []))],
  .lst [(U.tup [1, 1, 1, 0]), (U.rows []), (U.rows []), (U.bool false)],
  .lst [(U.loc 13), (U.loc 14), (U.loc 15), (U.loc 16)],
  .inst 536 17,
  .lst [],
  .lst [],
  .inst 733 18,
  .inst 733 19,
  .inst 733 20,
  .inst 733 21,
  .attrs [(("buffers" : Str), (U.loc 22)), (("commands" : Str), (U.loc 23)), (("global_map" : Str), (U.loc 24)), (("local_maps" : Str), (U.loc 25)), (("minor_maps" : Str), (U.loc 26)), (("question_map" : Str), U.none), (("questions" : Str), U.none), (("asker" : Str), U.none), (("kills" : Str), U.none), (("registers" : Str), U.none), (("abbrevs" : Str), U.none), (("windows" : Str), (U.loc 27)), (("files" : Str), U.none), (("machine" : Str), U.none), (("rules" : Str), U.none), (("further" : Str), U.none), (("matches" : Str), U.none), (("loop" : Str), U.none), (("goals" : Str), (U.loc 28)), (("undoing" : Str), (U.loc 29)), (("marks" : Str), (U.loc 30)), (("amalgam" : Str), (U.loc 31)), (("message" : Str), (U.str "")), (("is_echo_old" : Str), (U.bool false)), (("is_shifting" : Str), (U.bool false)), (("signal_text" : Str), U.none), (("panes" : Str), U.none), (("modes" : Str), U.none), (("fill_column" : Str), (U.int 70)), (("tab_width" : Str), (U.int 8)), (("rectangle" : Str), (U.loc 32)), (("last_expansion" : Str), U.none), (("replacing" : Str), U.none)],
  .attrs [(("number" : Str), (U.int 1)), (("name" : Str), (U.str "buffer0")), (("text" : Str), (U.loc 33)), (("markers" : Str), (U.loc 34)), (("point" : Str), U.int p1), (("begv" : Str), (U.int 1)), (("zv" : Str), (U.int 10)), (("mark" : Str), U.none), (("is_live" : Str), (U.bool true)), (("is_read_only" : Str), (U.bool false)), (("ticks" : Str), (U.int 2)), (("codes_ticks" : Str), (U.int 2)), (("saved_ticks" : Str), (U.int 1)), (("listeners" : Str), (U.loc 35)), (("undo" : Str), U.none), (("props" : Str), U.none), (("overlays" : Str), U.none), (("locals" : Str), U.none), (("syntax" : Str), U.none), (("file" : Str), U.none)],
  .attrs [(("number" : Str), (U.int 2)), (("name" : Str), (U.str "buffer1")), (("text" : Str), (U.loc 36)), (("markers" : Str), (U.loc 37)), (("point" : Str), U.int p2), (("begv" : Str), (U.int 1)), (("zv" : Str), (U.int 10)), (("mark" : Str), U.none), (("is_live" : Str), (U.bool true)), (("is_read_only" : Str), (U.bool false)), (("ticks" : Str), (U.int 2)), (("codes_ticks" : Str), (U.int 2)), (("saved_ticks" : Str), (U.int 1)), (("listeners" : Str), (U.loc 38)), (("undo" : Str), U.none), (("props" : Str), U.none), (("overlays" : Str), U.none), (("locals" : Str), U.none), (("syntax" : Str), U.none), (("file" : Str), U.none)],
  .attrs [(("number" : Str), (U.int 3)), (("name" : Str), (U.str "buffer2")), (("text" : Str), (U.loc 39)), (("markers" : Str), (U.loc 40)), (("point" : Str), U.int p3), (("begv" : Str), (U.int 1)), (("zv" : Str), (U.int 10)), (("mark" : Str), U.none), (("is_live" : Str), (U.bool true)), (("is_read_only" : Str), (U.bool false)), (("ticks" : Str), (U.int 2)), (("codes_ticks" : Str), (U.int 2)), (("saved_ticks" : Str), (U.int 1)), (("listeners" : Str), (U.loc 41)), (("undo" : Str), U.none), (("props" : Str), U.none), (("overlays" : Str), U.none), (("locals" : Str), U.none), (("syntax" : Str), U.none), (("file" : Str), U.none)],
  .attrs [(("number" : Str), (U.int 4)), (("name" : Str), (U.str "buffer3")), (("text" : Str), (U.loc 42)), (("markers" : Str), (U.loc 43)), (("point" : Str), U.int p4), (("begv" : Str), (U.int 1)), (("zv" : Str), (U.int 10)), (("mark" : Str), U.none), (("is_live" : Str), (U.bool true)), (("is_read_only" : Str), (U.bool false)), (("ticks" : Str), (U.int 2)), (("codes_ticks" : Str), (U.int 2)), (("saved_ticks" : Str), (U.int 1)), (("listeners" : Str), (U.loc 44)), (("undo" : Str), U.none), (("props" : Str), U.none), (("overlays" : Str), U.none), (("locals" : Str), U.none), (("syntax" : Str), U.none), (("file" : Str), U.none)],
  .inst 837 45,
  .inst 190 46,
  .inst 263 47,
  .idict [],
  .lst [],
  .inst 964 48,
  .idict [],
  .idict [],
  .idict [],
  .inst 38 49,
  .lst [],
  .inst 627 50,
  .inst 368 51,
  .lst [],
  .inst 627 52,
  .inst 368 53,
  .lst [],
  .inst 627 54,
  .inst 368 55,
  .lst [],
  .inst 627 56,
  .inst 368 57,
  .lst [],
  .attrs [(("rows" : Str), (U.loc 58)), (("order" : Str), (U.loc 59)), (("current" : Str), U.int cur), (("last_number" : Str), (U.int 4)), (("last_marker" : Str), (U.int 0)), (("listeners" : Str), (U.loc 60))],
  .attrs [(("rows" : Str), (U.loc 61))],
  .attrs [(("prompt" : Str), (U.str "")), (("rows" : Str), (U.loc 62)), (("has_default" : Str), (U.bool false)), (("default" : Str), U.none), (("parent" : Str), U.none)],
  .attrs [(("windows" : Str), (U.loc 63)), (("last" : Str), (U.int 3)), (("clock" : Str), (U.int 2)), (("least_width" : Str), (U.int 3)), (("least_height" : Str), (U.int 2)), (("root" : Str), (U.int 2)), (("selected" : Str), (U.int 3))],
  .attrs [(("sort" : Str), (U.str "")), (("many" : Str), (U.int 0))],
  .attrs [(("room" : Str), (U.int 8)), (("cells" : Str), (U.loc 64)), (("gap_start" : Str), (U.int 9)), (("gap_end" : Str), (U.int 17))],
  .attrs [(("rows" : Str), (U.loc 65))],
  .attrs [(("room" : Str), (U.int 8)), (("cells" : Str), (U.loc 66)), (("gap_start" : Str), (U.int 9)), (("gap_end" : Str), (U.int 17))],
  .attrs [(("rows" : Str), (U.loc 67))],
  .attrs [(("room" : Str), (U.int 8)), (("cells" : Str), (U.loc 68)), (("gap_start" : Str), (U.int 9)), (("gap_end" : Str), (U.int 17))],
  .attrs [(("rows" : Str), (U.loc 69))],
  .attrs [(("room" : Str), (U.int 8)), (("cells" : Str), (U.loc 70)), (("gap_start" : Str), (U.int 9)), (("gap_end" : Str), (U.int 17))],
  .attrs [(("rows" : Str), (U.loc 71))],
  .idict [((1 : Int), (U.loc 13)), ((2 : Int), (U.loc 14)), ((3 : Int), (U.loc 15)), ((4 : Int), (U.loc 16))],
  .lst [(U.int 1), (U.int 2), (U.int 3), (U.int 4)],
  .lst [],
  .idict [],
  .idict [],
  .idict [((1 : Int), (U.loc 6)), ((2 : Int), (U.loc 72)), ((3 : Int), (U.loc 3))],
  .lst [(U.int 97), (U.int 97), (U.int 97), (U.int 97), (U.int 97), (U.int 97), (U.int 97), (U.int 97), (U.int 97), (U.int 0), (U.int 0), (U.int 0), (U.int 0), (U.int 0), (U.int 0), (U.int 0), (U.int 0)],
  .idict [],
  .lst [(U.int 97), (U.int 97), (U.int 97), (U.int 97), (U.int 97), (U.int 97), (U.int 97), (U.int 97), (U.int 97), (U.int 0), (U.int 0), (U.int 0), (U.int 0), (U.int 0), (U.int 0), (U.int 0), (U.int 0)],
  .idict [],
  .lst [(U.int 97), (U.int 97), (U.int 97), (U.int 97), (U.int 97), (U.int 97), (U.int 97), (U.int 97), (U.int 97), (U.int 0), (U.int 0), (U.int 0), (U.int 0), (U.int 0), (U.int 0), (U.int 0), (U.int 0)],
  .idict [],
  .lst [(U.int 97), (U.int 97), (U.int 97), (U.int 97), (U.int 97), (U.int 97), (U.int 97), (U.int 97), (U.int 97), (U.int 0), (U.int 0), (U.int 0), (U.int 0), (U.int 0), (U.int 0), (U.int 0), (U.int 0)],
  .idict [],
  .inst 893 73,
  .attrs [(("number" : Str), (U.int 2)), (("sort" : Str), (U.int 2)), (("parent" : Str), (U.int 0)), (("children" : Str), (U.loc 74)), (("left" : Str), (U.int 0)), (("top" : Str), (U.int 0)), (("width" : Str), (U.int 20)), (("height" : Str), (U.int 6)), (("buffer" : Str), (U.int 0)), (("start" : Str), (U.int 1)), (("point" : Str), (U.int 1)), (("hscroll" : Str), (U.int 0)), (("is_dedicated" : Str), (U.bool false)), (("use_time" : Str), (U.int 0)), (("earlier" : Str), (U.loc 75)), (("later" : Str), (U.loc 76))],
  .lst [(U.int 1), (U.int 3)],
  .lst [],
  .lst []]
noncomputable def mkB (way oc sp : Option U) (R : B) (ns : List Int) (j hb hs hp hh : Int) (hd : Bool) (he hl : List Rw) (cur p1 p2 p3 p4 : Int) : St := ⟨[("script", none), ("deck", (some (.loc 0))), ("nth", none), ("own_made", (some (.loc 9))), ("own_buffer", none), ("second", none), ("there", (some (.loc 6))), ("record", (some (.loc 5))), ("untouched", (some (.loc 8))), ("way", way), ("own_choice", oc), ("spot", sp)], osB R ns j hb hs hp hh hd he hl cur p1 p2 p3 p4⟩
noncomputable def ksB : List Nat := [0, 1, 2, 136, 135, 158, 113, 112, 161, 76, 15, 137, 114, 25, 38, 51, 64, 14, 24, 37, 50, 63, 4, 9, 12, 16, 17, 110, 18, 19, 20, 22, 23, 28, 34, 36, 41, 47, 49, 54, 60, 62, 67, 73, 75, 3, 8, 11, 109, 21, 27, 33, 40, 46, 53, 59, 66, 72, 5, 6, 7, 10, 13, 111, 32, 35, 45, 48, 58, 61, 71, 74, 126, 125, 146, 128, 129]
noncomputable def frB : List Nat := [115, 116, 139, 140, 156, 157, 159, 160]
noncomputable def kseq (r : Nat) : List Nat := [0, 1, 2, 3, 4, r, 6, 7, 8, 9, 10, 11, 12, 13, 14, 15, 16, 17, 18, 19, 20, 21, 22, 23, 24, 25, 26, 27, 28, 29, 30, 31, 32, 33, 34, 35, 36, 37, 38, 39, 40, 41, 42, 43, 44, 45, 46, 47, 48, 49, 50, 51, 52, 53, 54, 55, 56, 57, 58, 59, 60, 61, 62, 63, 64, 65, 66, 67, 68, 69, 70, 71, 72, 73, 74, 75, 76]
noncomputable def tidyR (fg : List Str) (Q : St → Prop) (s : St) : Prop := match s.ls.lookup ("record" : Str) with
  | some (some (U.loc r)) => tidy (kseq r) [] fg Q s
  | _ => False
noncomputable def sm (s : St) : Prop := s = s
noncomputable def tidy0 (Q : St → Prop) (s : St) : Prop := match s.os[2]? with
  | some (B.cell (some (U.loc 113))) => tidy ksA frA ["own_buffer", "second"] Q s
  | _ => tidy ksB frB ["own_buffer", "second"] Q s
noncomputable def recB (hb hs hp hh : Int) (hd : Bool) (he hl : List Rw) : B := .lst [.tup [hb, hs, hp, hh], .rows he, .rows hl, .bool hd]
end Mine
namespace Mine
noncomputable def lawF : FnI := (fnT 1085).getD ⟨[], [], [], [], []⟩
noncomputable def Flaw : Fm := ⟨lawF.nm, [("here", 2), ("own_editor", 1)], 60, none⟩
noncomputable def s00 (ns : List Int) (k : St → Prop) : Prop := forceLs (locsOf lawF.nm [("deck", .loc 0)]) fun ls => k ⟨ls, [.lst [.nums ns, .int 0], .cell none, .cell none]⟩
noncomputable def prevR : Stmt := .Assign [.Name ("record" : Str) ⟨735, 12, 735, 18⟩] (.Call (.Name ("_law_window" : Str) ⟨735, 21, 735, 32⟩) [.Name ("here" : Str) ⟨735, 33, 735, 37⟩] [] ⟨735, 21, 735, 38⟩) ⟨735, 12, 735, 38⟩
noncomputable def prevRest : List Stmt := [prevR]
end Mine
namespace Mine
noncomputable def mkX (x : Bool) (way oc sp : Option U) (R : B) (ns : List Int) (j hb hs hp hh : Int) (hd : Bool) (he hl : List Rw) (cur p1 p2 p3 p4 : Int) : St := match x with
  | true => mkA way oc sp R ns j hb hs hp hh hd he hl cur p1 p2 p3 p4
  | false => mkB way oc sp R ns j hb hs hp hh hd he hl cur p1 p2 p3 p4
noncomputable def osX (x : Bool) (R : B) (ns : List Int) (j hb hs hp hh : Int) (hd : Bool) (he hl : List Rw) (cur p1 p2 p3 p4 : Int) : List B := match x with
  | true => osA R ns j hb hs hp hh hd he hl cur p1 p2 p3 p4
  | false => osB R ns j hb hs hp hh hd he hl cur p1 p2 p3 p4
noncomputable def winX (x : Bool) : Int := match x with
  | true => 1
  | false => 3
noncomputable abbrev R1 (x : Bool) (ns : List Int) (j : Int) (hb : Int) (hp : Int) (hd : Bool) (he : List Rw) (hl : List Rw) (cur : Int) (p1 : Int) (p2 : Int) (p3 : Int) (p4 : Int) (Q : St → Prop) : Prop :=
  (dOk ns (j) ∧ (∀ r27 : Int, (0 ≤ r27 → (r27 < 5 → (dOk ns (j + 1) ∧ (∀ r28 : Int, (0 ≤ r28 → (r28 < 3 → (dOk ns (j + 1 + 1) ∧ (∀ r29 : Int, (0 ≤ r29 → (r29 < 5 → (br (r29 == 3) (Q (mkX x (some (U.int (r29))) none none (recB (hb) (1 + r27) (hp) (r28) true (he) (hl)) (ns) (j + 1 + 1 + 1) (hb) (1 + r27) (hp) (r28) true (he) (hl) (cur) (p1) (p2) (p3) (p4))) (Q (mkX x (some (U.int (r29))) none none (recB (hb) (1 + r27) (hp) (r28) (hd) (he) (hl)) (ns) (j + 1 + 1 + 1) (hb) (1 + r27) (hp) (r28) (hd) (he) (hl) (cur) (p1) (p2) (p3) (p4))))))))))))))))
noncomputable abbrev R2 (x : Bool) (ns : List Int) (j : Int) (hb : Int) (hs : Int) (hp : Int) (hh : Int) (hd : Bool) (he : List Rw) (hl : List Rw) (w : Int) (rb : Int) (rs : Int) (rp : Int) (rh : Int) (rd : Bool) (re : List Rw) (rl : List Rw) (cur : Int) (p1 : Int) (p2 : Int) (p3 : Int) (p4 : Int) (Q : St → Prop) : Prop :=
  ((he.length ≤ 1000) ∧ (∃ p27 : Rw → Bool, ((∀ r28 : Rw, (r28 ∈ he → (((r28.b != hb) = (p27 r28)) ∧ (sm (St.mk [(("rows" : Str), (some (U.rows (he))))] (List.append (osX x (recB (rb) (rs) (rp) (rh) (rd) (re) (rl)) (ns) (j) (hb) (hs) (hp) (hh) (hd) (he) (hl) (cur) (p1) (p2) (p3) (p4)) [.cell (some .lam), .cell (some (U.int (hb)))])))))) ∧ (((List.filter p27 he).length ≤ 1000) ∧ (∃ p28 : Rw → Bool, ((∀ r29 : Rw, (r29 ∈ List.filter p27 he → (((Decidable.decide (0 < r29.b)) = (p28 r29)) ∧ (sm (St.mk [(("tree" : Str), (some (U.loc 27))), (("number" : Str), (some (U.int (winX x)))), (("here" : Str), (some (U.loc 3)))] (List.append (osX x (recB (rb) (rs) (rp) (rh) (rd) (re) (rl)) (ns) (j) (hb) (hs) (hp) (hh) (hd) (he) (hl) (cur) (p1) (p2) (p3) (p4)) [.cell (some .lam), .cell (some (U.int (hb)))])))))) ∧ (br ((rowsD (List.filter p28 (List.filter p27 he))).eqv (PySem.PyData.list [].reverse)) (Q (mkX x (some (U.int (w))) none none (recB (rb) (rs) (rp) (rh) (rd) (re) (rl)) (ns) (j) (hb) (hs) (hp) (hh) (hd) (List.filter p28 (List.filter p27 he)) (hl) (cur) (p1) (p2) (p3) (p4))) (br (hd) (Q (mkX x (some (U.int (w))) none none (recB (rb) (rs) (rp) (rh) (rd) (re) (rl)) (ns) (j) (hb) (hs) (hp) (hh) (hd) (List.filter p28 (List.filter p27 he)) (hl) (cur) (p1) (p2) (p3) (p4))) ((hl.length ≤ 1000) ∧ (∃ p29 : Rw → Bool, ((∀ r30 : Rw, (r30 ∈ hl → (((r30.b != hb) = (p29 r30)) ∧ (sm (St.mk [(("rows" : Str), (some (U.rows (hl))))] (List.append (osX x (recB (rb) (rs) (rp) (rh) (rd) (re) (rl)) (ns) (j) (hb) (hs) (hp) (hh) (hd) (List.filter p28 (List.filter p27 he)) (hl) (cur) (p1) (p2) (p3) (p4)) [.cell (some .lam), .cell (some (U.int (hb))), .lst [], .lst [(U.tup [(hb), (hs), (hp), (hh)])], .cell (some (U.int (hb)))])))))) ∧ ((([(Rw.mk (hb) (hs) (hp) (hh))].reverse.length ≤ 1000) ∧ ((List.filter p29 hl).length ≤ 1000)) ∧ (∃ r30 : Rw, (((rowAt (List.filter p28 (List.filter p27 he)) (-1)) = (some (r30))) ∧ (((List.filter p28 (List.filter p27 he)).length ≤ 1000) ∧ (∃ p31 : Rw → Bool, ((∀ r32 : Rw, (r32 ∈ List.filter p28 (List.filter p27 he) → (((r32.b != r30.b) = (p31 r32)) ∧ (sm (St.mk [(("rows" : Str), (some (U.rows (List.filter p28 (List.filter p27 he)))))] (List.append (osX x (recB (rb) (rs) (rp) (rh) (rd) (re) (rl)) (ns) (j) (r30.b) (r30.s) (r30.p) (r30.h) (hd) (List.filter p28 (List.filter p27 he)) ([(Rw.mk (hb) (hs) (hp) (hh))].reverse ++ List.filter p29 hl) (cur) (p1) (p2) (p3) (p4)) [.cell (some .lam), .cell (some (U.int (hb))), .lst [], .lst [(U.tup [(hb), (hs), (hp), (hh)])], .cell (some (U.int (hb))), .cell (some (U.int (r30.b)))])))))) ∧ (Q (mkX x (some (U.int (w))) none none (recB (rb) (rs) (rp) (rh) (rd) (re) (rl)) (ns) (j) (r30.b) (r30.s) (r30.p) (r30.h) (hd) (List.filter p31 (List.filter p28 (List.filter p27 he))) ([(Rw.mk (hb) (hs) (hp) (hh))].reverse ++ List.filter p29 hl) (cur) (p1) (p2) (p3) (p4))))))))))))))))))))
noncomputable abbrev R2r (x : Bool) (ns : List Int) (j : Int) (hb : Int) (hs : Int) (hp : Int) (hh : Int) (hd : Bool) (he : List Rw) (hl : List Rw) (w : Int) (cur : Int) (p1 : Int) (p2 : Int) (p3 : Int) (p4 : Int) (Q : St → Prop) : Prop :=
  ((he.length ≤ 1000) ∧ ((hl.length ≤ 1000) ∧ (Q (mkX x (some (U.int (w))) none none (recB (hb) (hs) (hp) (hh) (hd) (he) (hl)) (ns) (j) (hb) (hs) (hp) (hh) (hd) (he) (hl) (cur) (p1) (p2) (p3) (p4)))))
noncomputable abbrev R3 (x : Bool) (ns : List Int) (j : Int) (hb : Int) (hs : Int) (hp : Int) (hh : Int) (hd : Bool) (he : List Rw) (hl : List Rw) (w : Int) (rb : Int) (rs : Int) (rp : Int) (rh : Int) (rd : Bool) (re : List Rw) (rl : List Rw) (p1 : Int) (p2 : Int) (p3 : Int) (p4 : Int) (Q : St → Prop) : Prop :=
  (dOk ns (j) ∧ ((dOk ns (j + 1) ∧ (∀ r27 : Int, (0 ≤ r27 → (r27 < 10 → (Q (mkX x (some (U.int (w))) (some (U.loc 13)) (some (U.int (1 + r27))) (recB (rb) (rs) (rp) (rh) (rd) (re) (rl)) (ns) (j + 1 + 1) (hb) (hs) (hp) (hh) (hd) (he) (hl) 1 (if 10 < if 1 > 1 + r27 then 1 else 1 + r27 then 10 else if 1 > 1 + r27 then 1 else 1 + r27) (p2) (p3) (p4))))))) ∧ ((dOk ns (j + 1) ∧ (∀ r27 : Int, (0 ≤ r27 → (r27 < 10 → (Q (mkX x (some (U.int (w))) (some (U.loc 14)) (some (U.int (1 + r27))) (recB (rb) (rs) (rp) (rh) (rd) (re) (rl)) (ns) (j + 1 + 1) (hb) (hs) (hp) (hh) (hd) (he) (hl) 2 (p1) (if 10 < if 1 > 1 + r27 then 1 else 1 + r27 then 10 else if 1 > 1 + r27 then 1 else 1 + r27) (p3) (p4))))))) ∧ ((dOk ns (j + 1) ∧ (∀ r27 : Int, (0 ≤ r27 → (r27 < 10 → (Q (mkX x (some (U.int (w))) (some (U.loc 15)) (some (U.int (1 + r27))) (recB (rb) (rs) (rp) (rh) (rd) (re) (rl)) (ns) (j + 1 + 1) (hb) (hs) (hp) (hh) (hd) (he) (hl) 3 (p1) (p2) (if 10 < if 1 > 1 + r27 then 1 else 1 + r27 then 10 else if 1 > 1 + r27 then 1 else 1 + r27) (p4))))))) ∧ (dOk ns (j + 1) ∧ (∀ r27 : Int, (0 ≤ r27 → (r27 < 10 → (Q (mkX x (some (U.int (w))) (some (U.loc 16)) (some (U.int (1 + r27))) (recB (rb) (rs) (rp) (rh) (rd) (re) (rl)) (ns) (j + 1 + 1) (hb) (hs) (hp) (hh) (hd) (he) (hl) 4 (p1) (p2) (p3) (if 10 < if 1 > 1 + r27 then 1 else 1 + r27 then 10 else if 1 > 1 + r27 then 1 else 1 + r27)))))))))))
noncomputable abbrev R4 (x : Bool) (ns : List Int) (j : Int) (hb : Int) (hs : Int) (hp : Int) (hh : Int) (hd : Bool) (he : List Rw) (hl : List Rw) (w : Int) (sp : Int) (rb : Int) (rs : Int) (rp : Int) (rh : Int) (rd : Bool) (re : List Rw) (rl : List Rw) (n : Int) (lc : Nat) (pn : Int) (p1 : Int) (p2 : Int) (p3 : Int) (p4 : Int) (Q : St → Prop) : Prop :=
  (br (hb != n) (br (hb == n) (Q (mkX x (some (U.int (w))) (some (U.loc lc)) (some (U.int (sp))) (recB (rb) (rs) (rp) (rh) (rd) (re) (rl)) (ns) (j) (hb) (hs) (pn) (hh) false (he) (hl) n (p1) (p2) (p3) (p4))) (((he.length ≤ 1000) ∧ (hl.length ≤ 1000)) ∧ (((he ++ hl).length ≤ 1000) ∧ (∃ p27 : Rw → Bool, ((∀ r28 : Rw, (r28 ∈ he ++ hl → (((r28.b == n) = (p27 r28)) ∧ (sm (St.mk [(("tree" : Str), (some (U.loc 27))), (("number" : Str), (some (U.int (winX x)))), (("start" : Str), (some (U.int 1))), (("point" : Str), (some (U.int (pn)))), (("here" : Str), (some (U.loc 3))), (("again" : Str), none)] (List.append (osX x (recB (rb) (rs) (rp) (rh) (rd) (re) (rl)) (ns) (j) (hb) (hs) (hp) (hh) false (he) (hl) n (p1) (p2) (p3) (p4)) [.cell (some (U.int n))])))))) ∧ ((he.length ≤ 1000) ∧ (∃ p28 : Rw → Bool, ((∀ r29 : Rw, (r29 ∈ he → (((r29.b != hb) = (p28 r29)) ∧ (sm (St.mk [(("rows" : Str), (some (U.rows (he))))] (List.append (osX x (recB (rb) (rs) (rp) (rh) (rd) (re) (rl)) (ns) (j) (hb) (hs) (hp) (hh) false (he) (hl) n (p1) (p2) (p3) (p4)) [.cell (some (U.int n)), .cell (some (U.int (hb)))])))))) ∧ ((((List.filter p28 he).length ≤ 1000) ∧ ([(Rw.mk (hb) (hs) (hp) (hh))].reverse.length ≤ 1000)) ∧ (((List.filter p28 he ++ [(Rw.mk (hb) (hs) (hp) (hh))].reverse).length ≤ 1000) ∧ (∃ p29 : Rw → Bool, ((∀ r30 : Rw, (r30 ∈ List.filter p28 he ++ [(Rw.mk (hb) (hs) (hp) (hh))].reverse → (((r30.b != n) = (p29 r30)) ∧ (sm (St.mk [(("rows" : Str), (some (U.rows (List.filter p28 he ++ [(Rw.mk (hb) (hs) (hp) (hh))].reverse))))] (List.append (osX x (recB (rb) (rs) (rp) (rh) (rd) (re) (rl)) (ns) (j) (hb) (hs) (hp) (hh) false (List.filter p28 he ++ [(Rw.mk (hb) (hs) (hp) (hh))].reverse) (hl) n (p1) (p2) (p3) (p4)) [.cell (some (U.int n)), .cell (some (U.int (hb))), .lst [(U.tup [(hb), (hs), (hp), (hh)])], .cell (some (U.int n))])))))) ∧ ((hl.length ≤ 1000) ∧ (∃ p30 : Rw → Bool, ((∀ r31 : Rw, (r31 ∈ hl → (((r31.b != n) = (p30 r31)) ∧ (sm (St.mk [(("rows" : Str), (some (U.rows (hl))))] (List.append (osX x (recB (rb) (rs) (rp) (rh) (rd) (re) (rl)) (ns) (j) (hb) (hs) (hp) (hh) false (List.filter p29 (List.filter p28 he ++ [(Rw.mk (hb) (hs) (hp) (hh))].reverse)) (hl) n (p1) (p2) (p3) (p4)) [.cell (some (U.int n)), .cell (some (U.int (hb))), .lst [(U.tup [(hb), (hs), (hp), (hh)])], .cell (some (U.int n)), .cell (some (U.int n))])))))) ∧ (br (!(rowsD (List.filter p27 (he ++ hl))).eqv (PySem.PyData.list [].reverse)) (∃ r31 : Rw, (((rowAt (List.filter p27 (he ++ hl)) 0) = (some (r31))) ∧ (Q (mkX x (some (U.int (w))) (some (U.loc lc)) (some (U.int (sp))) (recB (rb) (rs) (rp) (rh) (rd) (re) (rl)) (ns) (j) (r31.b) (r31.s) (pn) (r31.h) false (List.filter p29 (List.filter p28 he ++ [(Rw.mk (hb) (hs) (hp) (hh))].reverse)) (List.filter p30 hl) n (p1) (p2) (p3) (p4))))) (Q (mkX x (some (U.int (w))) (some (U.loc lc)) (some (U.int (sp))) (recB (rb) (rs) (rp) (rh) (rd) (re) (rl)) (ns) (j) n 1 (pn) 0 false (List.filter p29 (List.filter p28 he ++ [(Rw.mk (hb) (hs) (hp) (hh))].reverse)) (List.filter p30 hl) n (p1) (p2) (p3) (p4))))))))))))))))))) (Q (mkX x (some (U.int (w))) (some (U.loc lc)) (some (U.int (sp))) (recB (rb) (rs) (rp) (rh) (rd) (re) (rl)) (ns) (j) (hb) (hs) (pn) (hh) (hd) (he) (hl) n (p1) (p2) (p3) (p4))))
noncomputable abbrev R5 (x : Bool) (ns : List Int) (j : Int) (hb : Int) (hs : Int) (hp : Int) (hh : Int) (hd : Bool) (he : List Rw) (hl : List Rw) (w : Int) (sp : Int) (rb : Int) (rs : Int) (rp : Int) (rh : Int) (rd : Bool) (re : List Rw) (rl : List Rw) (n : Int) (lc : Nat) (p1 : Int) (p2 : Int) (p3 : Int) (p4 : Int) (Q : St → Prop) : Prop :=
  (br (rb != n) (((re.length ≤ 1000) ∧ (rl.length ≤ 1000)) ∧ (((re ++ rl).length ≤ 1000) ∧ (∃ p27 : Rw → Bool, ((∀ r28 : Rw, (r28 ∈ re ++ rl → (((r28.b == n) = (p27 r28)) ∧ (sm (St.mk [(("record" : Str), (some (U.loc 5))), (("spot" : Str), (some (U.int (sp)))), (("earlier" : Str), (some (U.rows (re)))), (("later" : Str), (some (U.rows (rl)))), (("is_own" : Str), (some (U.bool (rd)))), (("shown_ahead" : Str), none)] (List.append (osX x (recB (rb) (rs) (rp) (rh) (rd) (re) (rl)) (ns) (j) (hb) (hs) (hp) (hh) (hd) (he) (hl) n (p1) (p2) (p3) (p4)) [.cell (some (U.tup [(rb), (rs), (rp), (rh)])), .cell (some (U.int n))])))))) ∧ ((re.length ≤ 1000) ∧ (∃ p28 : Rw → Bool, ((∀ r29 : Rw, (r29 ∈ re → (((![rb, n].any fun x => x == r29.b) = (p28 r29)) ∧ (sm (St.mk [(("record" : Str), (some (U.loc 5))), (("spot" : Str), (some (U.int (sp)))), (("earlier" : Str), (some (U.rows (re)))), (("later" : Str), (some (U.rows (rl)))), (("is_own" : Str), (some (U.bool (rd)))), (("shown_ahead" : Str), (some (U.rows (List.filter p27 (re ++ rl)))))] (List.append (osX x (recB (rb) (rs) (rp) (rh) (rd) (re) (rl)) (ns) (j) (hb) (hs) (hp) (hh) (hd) (he) (hl) n (p1) (p2) (p3) (p4)) [.cell (some (U.tup [(rb), (rs), (rp), (rh)])), .cell (some (U.int n))])))))) ∧ ((((List.filter p28 re).length ≤ 1000) ∧ ([(Rw.mk (rb) (rs) (rp) (rh))].reverse.length ≤ 1000)) ∧ ((rl.length ≤ 1000) ∧ (∃ p29 : Rw → Bool, ((∀ r30 : Rw, (r30 ∈ rl → (((r30.b != n) = (p29 r30)) ∧ (sm (St.mk [(("record" : Str), (some (U.loc 5))), (("spot" : Str), (some (U.int (sp)))), (("earlier" : Str), (some (U.rows (List.filter p28 re ++ [(Rw.mk (rb) (rs) (rp) (rh))].reverse)))), (("later" : Str), (some (U.rows (rl)))), (("is_own" : Str), (some (U.bool (rd)))), (("shown_ahead" : Str), (some (U.rows (List.filter p27 (re ++ rl)))))] (List.append (osX x (recB (rb) (rs) (rp) (rh) (rd) (re) (rl)) (ns) (j) (hb) (hs) (hp) (hh) (hd) (he) (hl) n (p1) (p2) (p3) (p4)) [.cell (some (U.tup [(rb), (rs), (rp), (rh)])), .cell (some (U.int n)), .lst [(U.tup [(rb), (rs), (rp), (rh)])]])))))) ∧ (br (!(rowsD (List.filter p27 (re ++ rl))).eqv (PySem.PyData.list [].reverse)) (∃ r30 : Rw, (((rowAt (List.filter p27 (re ++ rl)) 0) = (some (r30))) ∧ (Q (mkX x (some (U.int (w))) (some (U.loc lc)) (some (U.int (sp))) (recB (r30.b) (r30.s) (sp) (r30.h) false (List.filter p28 re ++ [(Rw.mk (rb) (rs) (rp) (rh))].reverse) (List.filter p29 rl)) (ns) (j) (hb) (hs) (hp) (hh) (hd) (he) (hl) n (p1) (p2) (p3) (p4))))) (Q (mkX x (some (U.int (w))) (some (U.loc lc)) (some (U.int (sp))) (recB n 1 (sp) 0 false (List.filter p28 re ++ [(Rw.mk (rb) (rs) (rp) (rh))].reverse) (List.filter p29 rl)) (ns) (j) (hb) (hs) (hp) (hh) (hd) (he) (hl) n (p1) (p2) (p3) (p4))))))))))))))) (Q (mkX x (some (U.int (w))) (some (U.loc lc)) (some (U.int (sp))) (recB (rb) (rs) (sp) (rh) (rd) (re) (rl)) (ns) (j) (hb) (hs) (hp) (hh) (hd) (he) (hl) n (p1) (p2) (p3) (p4))))
noncomputable abbrev R6 (x : Bool) (ns : List Int) (j : Int) (hb : Int) (hs : Int) (hp : Int) (hh : Int) (hd : Bool) (he : List Rw) (hl : List Rw) (sp : Int) (rb : Int) (rs : Int) (rp : Int) (rh : Int) (rd : Bool) (re : List Rw) (rl : List Rw) (n : Int) (pn : Int) (p1 : Int) (p2 : Int) (p3 : Int) (p4 : Int) (Q : St → Prop) : Prop :=
  ((he.length ≤ 1000) ∧ ((hl.length ≤ 1000) ∧ (br (!(PySem.PyData.list         [PySem.PyData.bool hd, rowsD hl, rowsD he,             PySem.PyData.tuple (List.map PySem.PyData.int [hb, hs, hp, hh])].reverse).eqv     (PySem.PyData.list       [PySem.PyData.bool rd, rowsD rl, rowsD re,           PySem.PyData.tuple (List.map PySem.PyData.int [rb, rs, rp, rh])].reverse)) False ((([] : List Rw).length ≤ 1000) ∧ ((([] : List Rw).length ≤ 1000) ∧ (br (pn != sp) False (Q (mkX x none none none (recB (rb) (rs) (rp) (rh) (rd) (re) (rl)) (ns) (j) (hb) (hs) (hp) (hh) (hd) (he) (hl) n (p1) (p2) (p3) (p4)))))))))
section
variable {x : Bool} {ns : List Int} {j hb hs hp hh w sp : Int} {hd : Bool} {he hl : List Rw} {cur p1 p2 p3 p4 : Int} {rb rs rp rh : Int} {rd : Bool} {re rl : List Rw} {Q : St → Prop}
theorem st1 : ((((run mc 300).xs Flaw (mkX x none none none (recB hb hs hp hh hd he hl) ns j hb hs hp hh hd he hl cur p1 p2 p3 p4) (loopBody.take 4) (nextK Q fun _ _ => False), (run mc 300).xs Flaw (mkX x (some (.int w)) none none (recB rb rs rp rh rd re rl) ns j hb hs hp hh hd he hl cur p1 p2 p3 p4) prevRest (nextK (tidyR [] Q) fun _ _ => False), (run mc 300).xs Flaw (mkX x (some (.int w)) none none (recB rb rs rp rh rd re rl) ns j hb hs hp hh hd he hl cur p1 p2 p3 p4) (loopBody.drop 5 |>.take 3) (nextK Q fun _ _ => False)) : Prop × Prop × Prop)) = ((R1 x ns j hb hp hd he hl cur p1 p2 p3 p4 Q), (R2r x ns j hb hs hp hh hd he hl w cur p1 p2 p3 p4 Q), (R3 x ns j hb hs hp hh hd he hl w rb rs rp rh rd re rl p1 p2 p3 p4 Q)) := by cases x <;> kernel_rfl
theorem st2 : (run mc 300).ca 60 (mkX x (some (.int w)) none none (recB rb rs rp rh rd re rl) ns j hb hs hp hh hd he hl cur p1 p2 p3 p4) 210 [.loc 27, .int (winX x), .lam] (fun _ => tidyR [] Q) = (R2 x ns j hb hs hp hh hd he hl w rb rs rp rh rd re rl cur p1 p2 p3 p4 Q) := by cases x <;> kernel_rfl
theorem st4 : ((((run mc 300).xs Flaw (mkX x (some (.int w)) (some (.loc 13)) (some (.int sp)) (recB rb rs rp rh rd re rl) ns j hb hs hp hh hd he hl 1 p1 p2 p3 p4) (loopBody.drop 8 |>.take 1) (nextK (tidyR [] Q) fun _ _ => False), (run mc 300).xs Flaw (mkX x (some (.int w)) (some (.loc 14)) (some (.int sp)) (recB rb rs rp rh rd re rl) ns j hb hs hp hh hd he hl 2 p1 p2 p3 p4) (loopBody.drop 8 |>.take 1) (nextK (tidyR [] Q) fun _ _ => False), (run mc 300).xs Flaw (mkX x (some (.int w)) (some (.loc 15)) (some (.int sp)) (recB rb rs rp rh rd re rl) ns j hb hs hp hh hd he hl 3 p1 p2 p3 p4) (loopBody.drop 8 |>.take 1) (nextK (tidyR [] Q) fun _ _ => False), (run mc 300).xs Flaw (mkX x (some (.int w)) (some (.loc 16)) (some (.int sp)) (recB rb rs rp rh rd re rl) ns j hb hs hp hh hd he hl 4 p1 p2 p3 p4) (loopBody.drop 8 |>.take 1) (nextK (tidyR [] Q) fun _ _ => False)) : Prop × Prop × Prop × Prop)) = ((R4 x ns j hb hs hp hh hd he hl w sp rb rs rp rh rd re rl 1 13 p1 p1 p2 p3 p4 Q), (R4 x ns j hb hs hp hh hd he hl w sp rb rs rp rh rd re rl 2 14 p2 p1 p2 p3 p4 Q), (R4 x ns j hb hs hp hh hd he hl w sp rb rs rp rh rd re rl 3 15 p3 p1 p2 p3 p4 Q), (R4 x ns j hb hs hp hh hd he hl w sp rb rs rp rh rd re rl 4 16 p4 p1 p2 p3 p4 Q)) := by cases x <;> kernel_rfl
theorem st5 : ((((run mc 300).xs Flaw (mkX x (some (.int w)) (some (.loc 13)) (some (.int sp)) (recB rb rs rp rh rd re rl) ns j hb hs hp hh hd he hl 1 p1 p2 p3 p4) (loopBody.drop 9 |>.take 1) (nextK (tidyR [] Q) fun _ _ => False), (run mc 300).xs Flaw (mkX x (some (.int w)) (some (.loc 14)) (some (.int sp)) (recB rb rs rp rh rd re rl) ns j hb hs hp hh hd he hl 2 p1 p2 p3 p4) (loopBody.drop 9 |>.take 1) (nextK (tidyR [] Q) fun _ _ => False), (run mc 300).xs Flaw (mkX x (some (.int w)) (some (.loc 15)) (some (.int sp)) (recB rb rs rp rh rd re rl) ns j hb hs hp hh hd he hl 3 p1 p2 p3 p4) (loopBody.drop 9 |>.take 1) (nextK (tidyR [] Q) fun _ _ => False), (run mc 300).xs Flaw (mkX x (some (.int w)) (some (.loc 16)) (some (.int sp)) (recB rb rs rp rh rd re rl) ns j hb hs hp hh hd he hl 4 p1 p2 p3 p4) (loopBody.drop 9 |>.take 1) (nextK (tidyR [] Q) fun _ _ => False)) : Prop × Prop × Prop × Prop)) = ((R5 x ns j hb hs hp hh hd he hl w sp rb rs rp rh rd re rl 1 13 p1 p2 p3 p4 Q), (R5 x ns j hb hs hp hh hd he hl w sp rb rs rp rh rd re rl 2 14 p1 p2 p3 p4 Q), (R5 x ns j hb hs hp hh hd he hl w sp rb rs rp rh rd re rl 3 15 p1 p2 p3 p4 Q), (R5 x ns j hb hs hp hh hd he hl w sp rb rs rp rh rd re rl 4 16 p1 p2 p3 p4 Q)) := by cases x <;> kernel_rfl
theorem st6 : ((((run mc 300).xs Flaw (mkX x (some (.int w)) (some (.loc 13)) (some (.int sp)) (recB rb rs rp rh rd re rl) ns j hb hs hp hh hd he hl 1 p1 p2 p3 p4) (loopBody.drop 10 |>.take 1) (nextK (tidyR ["nth", "way", "own_choice", "spot"] Q) fun _ _ => False), (run mc 300).xs Flaw (mkX x (some (.int w)) (some (.loc 14)) (some (.int sp)) (recB rb rs rp rh rd re rl) ns j hb hs hp hh hd he hl 2 p1 p2 p3 p4) (loopBody.drop 10 |>.take 1) (nextK (tidyR ["nth", "way", "own_choice", "spot"] Q) fun _ _ => False), (run mc 300).xs Flaw (mkX x (some (.int w)) (some (.loc 15)) (some (.int sp)) (recB rb rs rp rh rd re rl) ns j hb hs hp hh hd he hl 3 p1 p2 p3 p4) (loopBody.drop 10 |>.take 1) (nextK (tidyR ["nth", "way", "own_choice", "spot"] Q) fun _ _ => False), (run mc 300).xs Flaw (mkX x (some (.int w)) (some (.loc 16)) (some (.int sp)) (recB rb rs rp rh rd re rl) ns j hb hs hp hh hd he hl 4 p1 p2 p3 p4) (loopBody.drop 10 |>.take 1) (nextK (tidyR ["nth", "way", "own_choice", "spot"] Q) fun _ _ => False)) : Prop × Prop × Prop × Prop)) = ((R6 x ns j hb hs hp hh hd he hl sp rb rs rp rh rd re rl 1 p1 p1 p2 p3 p4 Q), (R6 x ns j hb hs hp hh hd he hl sp rb rs rp rh rd re rl 2 p2 p1 p2 p3 p4 Q), (R6 x ns j hb hs hp hh hd he hl sp rb rs rp rh rd re rl 3 p3 p1 p2 p3 p4 Q), (R6 x ns j hb hs hp hh hd he hl sp rb rs rp rh rd re rl 4 p4 p1 p2 p3 p4 Q)) := by cases x <;> kernel_rfl
end
end Mine
namespace Mine
theorem st0 {ns : List Int} {j hb hs hp hh w sp : Int} {hd : Bool} {he hl : List Rw} {cur p1 p2 p3 p4 : Int} {rb rs rp rh : Int} {rd : Bool} {re rl : List Rw} {Q : St → Prop} : ((s00 ns (fun s => (run mc 300).xs Flaw s (lawF.body.drop 1 |>.take 10) (nextK (tidy0 Q) fun _ _ => False))) : Prop) = (((dOk ns 0 ∧ ((∀ o27 : PySem.Obj, (((some (B.raw (o27))) = (some (B.raw (o27)))) ∧ (((some (B.raw (o27))) = (some (B.raw (o27)))) ∧ (((some (B.raw (o27))) = (some (B.raw (o27)))) ∧ (Q (mkA none none none (recB 1 1 1 0 false [] []) (ns) 1 1 1 1 0 false [] [] 1 10 10 10 10)))))) ∧ (∀ o27 : PySem.Obj, (((some (B.raw (o27))) = (some (B.raw (o27)))) ∧ (((some (B.raw (o27))) = (some (B.raw (o27)))) ∧ (((some (B.raw (o27))) = (some (B.raw (o27)))) ∧ (Q (mkB none none none (recB 1 1 1 0 false [] []) (ns) 1 1 1 1 0 false [] [] 1 10 10 10 10))))))))) : Prop) := by kernel_rfl
end Mine
namespace Mine
theorem of1 {a b : Prop} (h : a = b) : b → a := fun x => h ▸ x
theorem of31 {a b c a' b' c' : Prop} (h : (a, b, c) = (a', b', c')) : a' → a := by cases h; exact id
theorem of32 {a b c a' b' c' : Prop} (h : (a, b, c) = (a', b', c')) : b' → b := by cases h; exact id
theorem of33 {a b c a' b' c' : Prop} (h : (a, b, c) = (a', b', c')) : c' → c := by cases h; exact id
theorem of41 {a b c d a' b' c' d' : Prop} (h : (a, b, c, d) = (a', b', c', d')) : a' → a := by cases h; exact id
theorem of42 {a b c d a' b' c' d' : Prop} (h : (a, b, c, d) = (a', b', c', d')) : b' → b := by cases h; exact id
theorem of43 {a b c d a' b' c' d' : Prop} (h : (a, b, c, d) = (a', b', c', d')) : c' → c := by cases h; exact id
theorem of44 {a b c d a' b' c' d' : Prop} (h : (a, b, c, d) = (a', b', c', d')) : d' → d := by cases h; exact id
theorem eqvAll_ints : ∀ l : List Int, PyData.eqvAll (l.map PyData.int) (l.map PyData.int) = true
  | [] => by simp [PyData.eqvAll]
  | x :: l => by rw [List.map_cons, PyData.eqvAll, eqvAll_ints l]; simp [PyData.eqv]
theorem eqv_rowsD (rs : List Rw) : (rowsD rs).eqv (rowsD rs) = true := by
  unfold rowsD
  rw [PyData.eqv]
  induction rs with
  | nil => simp [PyData.eqvAll]
  | cons r rs ih => rw [List.map_cons, PyData.eqvAll, ih, PyData.eqv, eqvAll_ints]; rfl
theorem eqv_nil (rs : List Rw) : (rowsD rs).eqv (PyData.list [].reverse) = rs.isEmpty := by
  cases rs with
  | nil => simp only [rowsD, List.map_nil, List.reverse_nil, PyData.eqv, PyData.eqvAll, List.isEmpty_nil]
  | cons r rs => simp only [rowsD, List.map_cons, List.reverse_nil, PyData.eqv, PyData.eqvAll, List.isEmpty_cons]
theorem eqv_rec (hd : Bool) (hl he : List Rw) (is : List Int) : (PyData.list [PyData.bool hd, rowsD hl, rowsD he, PyData.tuple (List.map PyData.int is)].reverse).eqv (PyData.list [PyData.bool hd, rowsD hl, rowsD he, PyData.tuple (List.map PyData.int is)].reverse) = true := by
  simp only [List.reverse_cons, List.reverse_nil, List.nil_append, List.cons_append, PyData.eqv, PyData.eqvAll, eqv_rowsD, eqvAll_ints, beq_self_eq_true, Bool.and_self]
theorem fl1 {hb n hs hp hh : Int} {he : List Rw} (h : ¬ hb = n) : List.filter (fun r => r.b != n) (List.filter (fun r => r.b != hb) he ++ [Rw.mk hb hs hp hh].reverse) = List.filter (fun r => !([hb, n].any fun x => x == r.b)) he ++ [Rw.mk hb hs hp hh] := by
  rw [List.filter_append, List.filter_filter]
  congr 1
  · apply List.filter_congr
    intro r _
    have e : ∀ x y : Int, (x == y) = (y == x) := fun x y => by rw [Bool.eq_iff_iff, beq_iff_eq, beq_iff_eq]; exact ⟨Eq.symm, Eq.symm⟩
    simp [bne, e r.b hb, e r.b n, Bool.and_comm]
  · simp [h]
theorem rowAt0 {r : Rw} {rs : List Rw} : rowAt (r :: rs) 0 = some r := rfl
theorem rowAtL {rs : List Rw} : rowAt rs (-1) = rs.getLast? := rfl
structure Bh where
  b : Int
  s : Int
  h : Int
  d : Bool
  e : List Rw
  l : List Rw
noncomputable def bh (n : Int) (hb hs hp hh : Int) (hd : Bool) (he hl : List Rw) : Bh := if hb = n then ⟨hb, hs, hh, hd, he, hl⟩ else
  match List.filter (fun r => r.b == n) (he ++ hl) with
  | r :: _ => ⟨r.b, r.s, r.h, false, List.filter (fun r => !([hb, n].any fun x => x == r.b)) he ++ [Rw.mk hb hs hp hh], List.filter (fun r => r.b != n) hl⟩
  | [] => ⟨n, 1, 0, false, List.filter (fun r => !([hb, n].any fun x => x == r.b)) he ++ [Rw.mk hb hs hp hh], List.filter (fun r => r.b != n) hl⟩
theorem bh_len (n hb hs hp hh : Int) (hd : Bool) (he hl : List Rw) : (bh n hb hs hp hh hd he hl).e.length ≤ he.length + 1 ∧ (bh n hb hs hp hh hd he hl).l.length ≤ hl.length := by
  unfold bh
  split
  · exact ⟨Nat.le_succ _, Nat.le_refl _⟩
  · split
    · exact ⟨by rw [List.length_append]; exact Nat.add_le_add_right (List.length_filter_le _ _) 1, List.length_filter_le _ _⟩
    · exact ⟨by rw [List.length_append]; exact Nat.add_le_add_right (List.length_filter_le _ _) 1, List.length_filter_le _ _⟩
theorem clamp {r : Int} (h0 : 0 ≤ r) (h1 : r < 10) : (if 10 < if 1 > 1 + r then 1 else 1 + r then 10 else if 1 > 1 + r then 1 else 1 + r) = 1 + r := by
  have e : ¬ (1 : Int) > 1 + r := by omega
  rw [if_neg e, if_neg (by omega)]
theorem le_filter {p : Rw → Bool} {l : List Rw} {n : Nat} (h : l.length ≤ n) : (List.filter p l).length ≤ n := Nat.le_trans (List.length_filter_le _ _) h
section
variable {x : Bool} {ns : List Int} {j hb hs hp hh w sp : Int} {hd : Bool} {he hl : List Rw} {cur p1 p2 p3 p4 : Int} {rb rs rp rh : Int} {rd : Bool} {re rl : List Rw} {Q : St → Prop} {n : Int} {lc : Nat} {pn : Int}
theorem a1 (d0 : dOk ns j) (d1 : dOk ns (j + 1)) (d2 : dOk ns (j + 1 + 1))
    (q : ∀ w hs' hh' hd', Q (mkX x (some (.int w)) none none (recB hb hs' hp hh' hd' he hl) ns (j + 1 + 1 + 1) hb hs' hp hh' hd' he hl cur p1 p2 p3 p4)) : (R1 x ns j hb hp hd he hl cur p1 p2 p3 p4 Q) := by
  refine ⟨d0, fun r1 _ _ => ⟨d1, fun r2 _ _ => ⟨d2, fun r3 _ _ => ?_⟩⟩⟩
  cases (r3 == 3) <;> exact q _ _ _ _
theorem a2r (l1 : he.length ≤ 100) (l2 : hl.length ≤ 100) (q : Q (mkX x (some (.int w)) none none (recB hb hs hp hh hd he hl) ns j hb hs hp hh hd he hl cur p1 p2 p3 p4)) : (R2r x ns j hb hs hp hh hd he hl w cur p1 p2 p3 p4 Q) := ⟨by omega, by omega, q⟩
theorem a3 (d0 : dOk ns j) (d1 : dOk ns (j + 1))
    (q1 : ∀ sp, Q (mkX x (some (.int w)) (some (.loc 13)) (some (.int sp)) (recB rb rs rp rh rd re rl) ns (j + 1 + 1) hb hs hp hh hd he hl 1 sp p2 p3 p4))
    (q2 : ∀ sp, Q (mkX x (some (.int w)) (some (.loc 14)) (some (.int sp)) (recB rb rs rp rh rd re rl) ns (j + 1 + 1) hb hs hp hh hd he hl 2 p1 sp p3 p4))
    (q3 : ∀ sp, Q (mkX x (some (.int w)) (some (.loc 15)) (some (.int sp)) (recB rb rs rp rh rd re rl) ns (j + 1 + 1) hb hs hp hh hd he hl 3 p1 p2 sp p4))
    (q4 : ∀ sp, Q (mkX x (some (.int w)) (some (.loc 16)) (some (.int sp)) (recB rb rs rp rh rd re rl) ns (j + 1 + 1) hb hs hp hh hd he hl 4 p1 p2 p3 sp))
    : (R3 x ns j hb hs hp hh hd he hl w rb rs rp rh rd re rl p1 p2 p3 p4 Q) := by
  refine ⟨d0, ⟨d1, fun r h0 h1 => ?_⟩, ⟨d1, fun r h0 h1 => ?_⟩, ⟨d1, fun r h0 h1 => ?_⟩, ⟨d1, fun r h0 h1 => ?_⟩⟩
  · rw [clamp h0 h1]; exact q1 _
  · rw [clamp h0 h1]; exact q2 _
  · rw [clamp h0 h1]; exact q3 _
  · rw [clamp h0 h1]; exact q4 _
theorem a2 (l1 : he.length ≤ 100) (l2 : hl.length ≤ 100)
    (q : ∀ hb' hs' hp' hh' he' hl', he'.length ≤ he.length → hl'.length ≤ hl.length + 1 → Q (mkX x (some (.int w)) none none (recB rb rs rp rh rd re rl) ns j hb' hs' hp' hh' hd he' hl' cur p1 p2 p3 p4)) : (R2 x ns j hb hs hp hh hd he hl w rb rs rp rh rd re rl cur p1 p2 p3 p4 Q) := by
  refine ⟨by omega, fun r => r.b != hb, fun r _ => ⟨rfl, rfl⟩, le_filter (by omega), fun r => decide (0 < r.b), fun r _ => ⟨rfl, rfl⟩, ?_⟩
  rw [eqv_nil]
  have hE : (List.filter (fun r : Rw => decide (0 < r.b)) (List.filter (fun r => r.b != hb) he)).length ≤ he.length := le_filter (List.length_filter_le _ _)
  generalize hg : List.filter (fun r : Rw => decide (0 < r.b)) (List.filter (fun r => r.b != hb) he) = E at hE ⊢
  cases hEE : E.isEmpty with
  | true => exact q _ _ _ _ _ _ hE (by omega)
  | false =>
    cases hd with
    | true => exact q _ _ _ _ _ _ hE (by omega)
    | false =>
      have hn : E ≠ [] := by intro z; rw [z] at hEE; cases hEE
      refine ⟨by omega, fun r => r.b != hb, fun r _ => ⟨rfl, rfl⟩, ⟨by simp, le_filter (by omega)⟩, E.getLast hn, ?_, by omega, fun r => r.b != (E.getLast hn).b, fun r _ => ⟨rfl, rfl⟩, ?_⟩
      · rw [rowAtL]; exact List.getLast?_eq_some_getLast hn
      · refine q _ _ _ _ _ _ (Nat.le_trans (List.length_filter_le _ _) hE) ?_
        have := List.length_filter_le (fun r : Rw => r.b != hb) hl
        simp only [List.length_append, List.reverse_cons, List.reverse_nil, List.nil_append, List.length_cons, List.length_nil]
        omega
theorem br_no {b : Bool} {p q : Prop} (h : b = false) (x : q) : br b p q := by subst h; exact x
theorem br_yes {b : Bool} {p q : Prop} (h : b = true) (x : p) : br b p q := by subst h; exact x
theorem br_head {E : List Rw} {P : Rw → Prop} {N : Prop} (q : match E with
    | r :: _ => P r
    | [] => N) : br (!(rowsD E).eqv (PyData.list [].reverse)) (∃ r, rowAt E 0 = some r ∧ P r) N := by
  rw [eqv_nil]
  cases E with
  | nil => exact q
  | cons r E => exact ⟨r, rowAt0, q⟩
theorem ne_ff {a b : Int} (h : a = b) : (a != b) = false := by simp [h]
theorem ne_tt {a b : Int} (h : ¬ a = b) : (a != b) = true := by simp [h]
theorem eq_ff {a b : Int} (h : ¬ a = b) : (a == b) = false := by simp [h]
theorem len_app {a b : List Rw} (l1 : a.length ≤ 100) (l2 : b.length ≤ 100) : (a ++ b).length ≤ 1000 := by rw [List.length_append]; omega
theorem len_one {p : Rw → Bool} {a : List Rw} {r : Rw} (l1 : a.length ≤ 100) : (List.filter p a ++ [r].reverse).length ≤ 1000 := by
  have := List.length_filter_le p a
  simp only [List.length_append, List.reverse_cons, List.reverse_nil, List.nil_append, List.length_cons, List.length_nil]
  omega
theorem bh_is {P : Bh → Prop} (e : ¬ hb = n) (q : P (bh n hb hs hp hh hd he hl)) : match List.filter (fun r => r.b == n) (he ++ hl) with
    | r :: _ => P ⟨r.b, r.s, r.h, false, List.filter (fun r => !([hb, n].any fun x => x == r.b)) he ++ [Rw.mk hb hs hp hh], List.filter (fun r => r.b != n) hl⟩
    | [] => P ⟨n, 1, 0, false, List.filter (fun r => !([hb, n].any fun x => x == r.b)) he ++ [Rw.mk hb hs hp hh], List.filter (fun r => r.b != n) hl⟩ := by
  unfold bh at q
  rw [if_neg e] at q
  generalize List.filter (fun r : Rw => r.b == n) (he ++ hl) = E at q ⊢
  cases E with
  | nil => exact q
  | cons r E => exact q
theorem a4 (l1 : he.length ≤ 100) (l2 : hl.length ≤ 100) (q : Q (mkX x (some (.int w)) (some (.loc lc)) (some (.int sp)) (recB rb rs rp rh rd re rl) ns j (bh n hb hs hp hh hd he hl).b (bh n hb hs hp hh hd he hl).s pn (bh n hb hs hp hh hd he hl).h (bh n hb hs hp hh hd he hl).d (bh n hb hs hp hh hd he hl).e (bh n hb hs hp hh hd he hl).l n p1 p2 p3 p4)) : (R4 x ns j hb hs hp hh hd he hl w sp rb rs rp rh rd re rl n lc pn p1 p2 p3 p4 Q) := by
  by_cases e : hb = n
  · refine br_no (ne_ff e) ?_
    unfold bh at q
    rw [if_pos e] at q
    exact q
  · refine br_yes (ne_tt e) (br_no (eq_ff e) ?_)
    have q := bh_is (P := fun z => Q (mkX x (some (.int w)) (some (.loc lc)) (some (.int sp)) (recB rb rs rp rh rd re rl) ns j z.b z.s pn z.h z.d z.e z.l n p1 p2 p3 p4)) e q
    refine ⟨⟨by omega, by omega⟩, len_app l1 l2, fun r => r.b == n, fun r _ => ⟨rfl, rfl⟩, by omega, fun r => r.b != hb, fun r _ => ⟨rfl, rfl⟩, ⟨le_filter (by omega), by simp⟩, len_one l1, fun r => r.b != n, fun r _ => ⟨rfl, rfl⟩, by omega, fun r => r.b != n, fun r _ => ⟨rfl, rfl⟩, br_head ?_⟩
    rw [fl1 e]
    exact q
theorem a5 (l1 : re.length ≤ 100) (l2 : rl.length ≤ 100) (q : Q (mkX x (some (.int w)) (some (.loc lc)) (some (.int sp)) (recB (bh n rb rs rp rh rd re rl).b (bh n rb rs rp rh rd re rl).s sp (bh n rb rs rp rh rd re rl).h (bh n rb rs rp rh rd re rl).d (bh n rb rs rp rh rd re rl).e (bh n rb rs rp rh rd re rl).l) ns j hb hs hp hh hd he hl n p1 p2 p3 p4)) : (R5 x ns j hb hs hp hh hd he hl w sp rb rs rp rh rd re rl n lc p1 p2 p3 p4 Q) := by
  by_cases e : rb = n
  · refine br_no (ne_ff e) ?_
    unfold bh at q
    rw [if_pos e] at q
    exact q
  · refine br_yes (ne_tt e) ?_
    have q := bh_is (P := fun z => Q (mkX x (some (.int w)) (some (.loc lc)) (some (.int sp)) (recB z.b z.s sp z.h z.d z.e z.l) ns j hb hs hp hh hd he hl n p1 p2 p3 p4)) e q
    exact ⟨⟨by omega, by omega⟩, len_app l1 l2, fun r => r.b == n, fun r _ => ⟨rfl, rfl⟩, by omega, fun r => !([rb, n].any fun x => x == r.b), fun r _ => ⟨rfl, rfl⟩, ⟨le_filter (by omega), by simp⟩, by omega, fun r => r.b != n, fun r _ => ⟨rfl, rfl⟩, br_head q⟩
theorem a6 (l1 : he.length ≤ 100) (l2 : hl.length ≤ 100) (hpn : pn = sp) (q : Q (mkX x none none none (recB hb hs hp hh hd he hl) ns j hb hs hp hh hd he hl n p1 p2 p3 p4)) : (R6 x ns j hb hs hp hh hd he hl sp hb hs hp hh hd he hl n pn p1 p2 p3 p4 Q) := by
  refine ⟨by omega, by omega, br_no ?_ ⟨by simp, by simp, br_no (ne_ff hpn) q⟩⟩
  rw [eqv_rec]; rfl
end
end Mine
namespace Mine
theorem wp_execs_app {M : Model} {Γ : Ctx} {env : Env} {l2 : List Stmt} {Q : Flow → Pos → Shared → Prop} {E : Value → Pos → Shared → Prop} : ∀ (l1 : List Stmt) (p : Pos) (s : Shared), Sem.wp M Γ (execs l1 env) (fun f p' s' => match f with | .next => Sem.wp M Γ (execs l2 env) Q E p' s' | f => Q f p' s') E p s → Sem.wp M Γ (execs (l1 ++ l2) env) Q E p s
  | [], p, s, h => h
  | st :: r, p, s, h => by
    have h : Sem.wp M Γ (do match ← exec st env with | .next => execs r env | f => pure f) (fun f p' s' => match f with | .next => Sem.wp M Γ (execs l2 env) Q E p' s' | f => Q f p' s') E p s := h
    show Sem.wp M Γ (do match ← exec st env with | .next => execs (r ++ l2) env | f => pure f) Q E p s
    rw [Sem.wp_bind'] at h ⊢
    refine Sem.wp_mono M Γ _ (fun f p' s' h' => ?_) (fun _ _ _ h' => h') _ _ h
    cases f with
    | next => exact wp_execs_app r p' s' h'
    | _ => exact h'
theorem execs_app {c : Cx} {A : Around} {h : Heap} {env : Env} {l1 l2 : List Stmt} {P : Heap → Prop} {Q : Flow → Heap → Prop} (x : W c A (execs l1 env) h (fun fl h' => fl = .next ∧ P h')) (y : ∀ h', P h' → W c A (execs l2 env) h' Q) : W c A (execs (l1 ++ l2) env) h Q := fun tk Γ p hΓ => by
  refine wp_execs_app l1 p _ ?_
  refine Sem.wp_mono _ Γ _ (fun f p' s' h' => ?_) (fun _ _ _ h' => h') _ _ (x tk Γ p hΓ)
  obtain ⟨h₁, tk₁, rfl, rfl, q⟩ := h'
  exact y h₁ q tk₁ Γ p' hΓ
section
variable {c : Cx} {A : Around} {env : Env} {L : Addr} {cl : List (Str × Addr)} {g h : Heap} {own : List (Addr × AObj)} {c1 c2 : Addr} {ω ω' : Wd} {Q Q' : St → Prop} {τ₀ : List (Addr × AObj)}
structure LF (c : Cx) (A : Around) (env : Env) (L : Addr) (cl : List (Str × Addr)) (g : Heap) (c1 c2 : Addr) : Prop where
  fo : FO (Mine.hd.heap_1 c.w.params) c A env lawF.nm L cl g 60
  h : cl.lookup ("here" : Str) = some c2
  e : cl.lookup ("own_editor" : Str) = some c1
noncomputable def Cs (ω : Wd) (c1 c2 : Addr) : Prop := ω.σ[1]? = some c1 ∧ ω.σ[2]? = some c2
theorem Cs.mono (h : Cs ω c1 c2) (e : Ext ω ω') : Cs ω' c1 c2 := ⟨e.get h.1, e.get h.2⟩
noncomputable def At (c : Cx) (g : Heap) (L : Addr) (own : List (Addr × AObj)) (c1 c2 : Addr) (τ₀ : List (Addr × AObj)) (Q : St → Prop) (h : Heap) : Prop := ∃ ω m s, Cs ω c1 c2 ∧ (∀ p ∈ τ₀, p ∈ ω.τ) ∧ Rel lamP c g L own ω m s h ∧ Q s
theorem law_nm_ok : okNames lawF.nm = true := by kernel_rfl
theorem LF.fr (f : LF c A env L cl g c1 c2) (C : Cs ω c1 c2) : FR lamP (Mine.hd.heap_1 c.w.params) mc c A Flaw env L g own ω := by
  refine FR.fn (F := Flaw) (tab_ok _ _) f.fo (fun x i q => ?_) rfl law_nm_ok
  have q : List.lookup x [(("here" : Str), 2), ("own_editor", 1)] = some i := q
  rw [List.lookup_cons] at q
  split at q
  · rename_i e; cases q; rw [eq_of_beq e]; exact ⟨_, f.h, C.2⟩
  · rw [List.lookup_cons] at q
    split at q
    · rename_i e; cases q; rw [eq_of_beq e]; exact ⟨_, f.e, C.1⟩
    · cases q
theorem snd : Sound lamP (Mine.hd.heap_1 c.w.params) mc c (run mc 300) := run_ok (tab_ok _ _) lam_ok sp_ok_mc 300
theorem LF.xs {l : List Stmt} (f : LF c A env L cl g c1 c2) (a : At c g L own c1 c2 τ₀ Q h) (e : ∀ s, Q s → (run mc 300).xs Flaw s l (nextK Q' fun _ _ => False)) : W c A (execs l env) h (fun fl h' => fl = .next ∧ At c g L own c1 c2 τ₀ Q' h') := by
  obtain ⟨ω, m, s, C, z, R, q⟩ := a
  refine (snd.xs (e s q) rfl (f.fr C) R).mono ?_
  rintro fl h' ⟨ω', m', s', f', e', R', hf, k⟩
  cases f' with
  | next => cases fl with
    | next => exact ⟨rfl, ω', m', s', C.mono e', fun p hp => e'.2 p (z p hp), R', k⟩
    | _ => exact hf.elim
  | ret v => exact k.elim
theorem At.tidy {ks fr : List Nat} {fg : List Str} (a : At c g L own c1 c2 τ₀ (tidy ks fr fg Q) h) (k1 : ks[1]? = some 1) (k2 : ks[2]? = some 2) : At c g L own c1 c2 τ₀ Q h := by
  obtain ⟨ω, m, s, C, z, R, q⟩ := a
  unfold Mine.tidy at q
  split at q
  · rename_i s' e
    obtain ⟨ω', R', y, k⟩ := pick_ok R e
    exact ⟨ω', m, _, ⟨k 1 1 _ k1 C.1, k 2 2 _ k2 C.2⟩, fun p hp => y p (z p hp), fg_ok fg R', q⟩
  · exact q.elim
theorem At.tidyR {fg : List Str} (a : At c g L own c1 c2 τ₀ (tidyR fg Q) h) : At c g L own c1 c2 τ₀ Q h := by
  obtain ⟨ω, m, s, C, z, R, q⟩ := a
  unfold Mine.tidyR at q
  split at q
  · exact At.tidy ⟨ω, m, s, C, z, R, q⟩ rfl rfl
  · exact q.elim
theorem At.tidy0 (a : At c g L own c1 c2 τ₀ (tidy0 Q) h) : At c g L own c1 c2 τ₀ Q h := by
  obtain ⟨ω, m, s, C, z, R, q⟩ := a
  unfold Mine.tidy0 at q
  split at q
  · exact At.tidy ⟨ω, m, s, C, z, R, q⟩ rfl rfl
  · exact At.tidy ⟨ω, m, s, C, z, R, q⟩ rfl rfl
end
end Mine
namespace Mine
noncomputable def wayT : Expr := .Compare (.Name ("way" : Str) ⟨733, 11, 733, 14⟩) [.Eq] [.Constant (.int 4) 0 ⟨733, 18, 733, 19⟩] ⟨733, 11, 733, 19⟩
noncomputable def prevF : Expr := .Name ("previous_buffer" : Str) ⟨734, 12, 734, 27⟩
noncomputable def prevP : Pos := ⟨734, 12, 734, 87⟩
noncomputable def prevP2 : Pos := ⟨734, 12, 734, 87⟩
noncomputable def ifP : Pos := ⟨733, 8, 735, 38⟩
noncomputable def prevA1 : Expr := .Attribute (.Name ("own_editor" : Str) ⟨734, 28, 734, 38⟩) ("windows" : Str) ⟨734, 28, 734, 46⟩
noncomputable def prevA2 : Expr := .Attribute (.Name ("here" : Str) ⟨734, 48, 734, 52⟩) ("number" : Str) ⟨734, 48, 734, 59⟩
theorem if_is : (loopBody.drop 4 |>.take 1) = [.If wayT [.Expr (.Call prevF [prevA1, prevA2, .Lambda lamA lamB lamS lamPos] [] prevP) prevP2, prevR] [] ifP] := by kernel_rfl
theorem prevRest_is : prevRest = [prevR] := rfl
section
variable {x : Bool} {ns : List Int} {j hb hs hp hh w : Int} {hd : Bool} {he hl : List Rw} {cur p1 p2 p3 p4 : Int} {R : B} {k1 : Bool → St → Prop} {k : U → St → Prop}
theorem ev4 : (((run mc 300).te Flaw (mkX x (some (.int w)) none none R ns j hb hs hp hh hd he hl cur p1 p2 p3 p4) wayT k1, (run mc 300).ev Flaw (mkX x (some (.int w)) none none R ns j hb hs hp hh hd he hl cur p1 p2 p3 p4) prevF k, (run mc 300).ev Flaw (mkX x (some (.int w)) none none R ns j hb hs hp hh hd he hl cur p1 p2 p3 p4) prevA1 k, (run mc 300).ev Flaw (mkX x (some (.int w)) none none R ns j hb hs hp hh hd he hl cur p1 p2 p3 p4) prevA2 k) : Prop × Prop × Prop × Prop) =
  (k1 (w == 4) (mkX x (some (.int w)) none none R ns j hb hs hp hh hd he hl cur p1 p2 p3 p4), k (.glob 210) (mkX x (some (.int w)) none none R ns j hb hs hp hh hd he hl cur p1 p2 p3 p4), k (.loc 27) (mkX x (some (.int w)) none none R ns j hb hs hp hh hd he hl cur p1 p2 p3 p4), k (.int (winX x)) (mkX x (some (.int w)) none none R ns j hb hs hp hh hd he hl cur p1 p2 p3 p4)) := by cases x <;> kernel_rfl
end
section
variable {c : Cx} {A : Around} {env : Env} {L : Addr} {cl : List (Str × Addr)} {g h : Heap} {own : List (Addr × AObj)} {c1 c2 : Addr} {ω ω' : Wd} {Q Q' : St → Prop} {cA PA : Addr} {cn : Str} {cs : Scope} {fa : Addr} {E : List (Addr × AObj)}
noncomputable def TbOk (qual : Str) : Option Addr → List (Addr × AObj) → Prop
  | none, τ₀ => τ₀ = []
  | some c', τ₀ => ∃ oc t vs, τ₀ = [(c', .raw oc)] ∧ oc.data = .fields vs ∧ vs[1]? = some (.str (qual ++ "<lambda>") t)
noncomputable def AtL (c : Cx) (g : Heap) (L : Addr) (PA : Addr) (E : List (Addr × AObj)) (qual : Str) (c1 c2 : Addr) (Q : St → Prop) (h : Heap) : Prop := ∃ tb τ₀, TbOk qual tb τ₀ ∧ At c g L ((PA, .raw (tabObj (tabOf tb))) :: E) c1 c2 τ₀ Q h
theorem AtL.xs {qual : Str} {l : List Stmt} (f : LF c A env L cl g c1 c2) (a : AtL c g L PA E qual c1 c2 Q h) (e : ∀ s, Q s → (run mc 300).xs Flaw s l (nextK Q' fun _ _ => False)) : W c A (execs l env) h (fun fl h' => fl = .next ∧ AtL c g L PA E qual c1 c2 Q' h') := by
  obtain ⟨tb, τ₀, t, a⟩ := a
  exact (f.xs a e).mono fun fl h' q => ⟨q.1, tb, τ₀, t, q.2⟩
theorem AtL.tidyR {qual : Str} {fg : List Str} (a : AtL c g L PA E qual c1 c2 (tidyR fg Q) h) : AtL c g L PA E qual c1 c2 Q h := let ⟨tb, τ₀, t, a⟩ := a; ⟨tb, τ₀, t, a.tidyR⟩
theorem AtL.tidy0 {qual : Str} (a : AtL c g L PA E qual c1 c2 (tidy0 Q) h) : AtL c g L PA E qual c1 c2 Q h := let ⟨tb, τ₀, t, a⟩ := a; ⟨tb, τ₀, t, a.tidy0⟩
theorem pair_one {l : List (Addr × AObj)} (nd : (l.map (·.1)).Nodup) {a : Addr} {x y : AObj} (h1 : (a, x) ∈ l) (h2 : (a, y) ∈ l) : x = y := by
  induction l with
  | nil => cases h1
  | cons p l ih =>
    rw [List.map_cons, List.nodup_cons] at nd
    rcases List.mem_cons.mp h1 with e1 | e1 <;> rcases List.mem_cons.mp h2 with e2 | e2
    · exact (Prod.mk.inj (e1.trans e2.symm)).2
    · exact absurd (List.mem_map_of_mem (f := (·.1)) e2) (by rw [← e1] at nd; exact nd.1)
    · exact absurd (List.mem_map_of_mem (f := (·.1)) e1) (by rw [← e2] at nd; exact nd.1)
    · exact ih nd.2 e1 e2
theorem lam_made {Q : Value → Heap → Prop} {tb : Option Addr} {τ₀ : List (Addr × AObj)} {m : Str → Option Value} {s : St} (f : LF c A (envX cn cs L fa (.ref cA) cl) L cl g c1 c2) (C : CodeHd g cA PA) (t : TbOk (envX cn cs L fa (.ref cA) cl).qual tb τ₀) (z : ∀ p ∈ τ₀, p ∈ ω.τ)
    (R : Rel lamP c g L ((PA, .raw (tabObj (tabOf tb))) :: E) ω m s h)
    (q : ∀ y h' tb' τ' ω', TbOk (envX cn cs L fa (.ref cA) cl).qual tb' τ' → (∀ p ∈ τ', p ∈ ω'.τ) → Ext ω ω' → Rel lamP c g L ((PA, .raw (tabObj (tabOf tb'))) :: E) ω' m s h' → VI lamP ω' .lam y → Q y h') :
    W c A (eval (.Lambda lamA lamB lamS lamPos) (envX cn cs L fa (.ref cA) cl)) h Q := by
  refine (R).use fun ls l h1 h2 S => ?_
  have pm : (l ++ (ω.τ ++ (PA, AObj.raw (tabObj (tabOf tb))) :: E)).Perm ((PA, .raw (tabObj (tabOf tb))) :: (l ++ (ω.τ ++ E))) := by
    rw [← List.append_assoc, ← List.append_assoc]
    exact List.perm_middle
  have S' : ST c g L m ls h ((PA, .raw (tabObj (tabOf tb))) :: (l ++ (ω.τ ++ E))) := ⟨S.lo, S.ld.perm pm.symm⟩
  refine e_lam f.fo C S' (fun c' e => ?_) fun a o c' oc h' lc hp S₁ hc hf => ?_
  · subst e
    obtain ⟨oc, t, vs, rfl, d1, d2⟩ := t
    exact ⟨oc, t, vs, List.mem_append_right _ (List.mem_append_left _ (z _ (.head _))), d1, d2⟩
  · obtain ⟨t', vs, d1, d2⟩ := hf
    have nd := S₁.ld.nd
    have hm : (c', AObj.raw oc) ∈ lc ++ ω.τ := by
      rcases hc with rfl | ⟨rfl, rfl, hm⟩
      · exact .head _
      · obtain ⟨oc0, t0, vs0, rfl, _, _⟩ := t
        have k0 : (c', AObj.raw oc0) ∈ ω.τ := z _ (.head _)
        have nd' : ((l ++ (ω.τ ++ E)).map (·.1)).Nodup := by
          rw [List.map_cons, List.nodup_cons, List.map_cons, List.nodup_cons] at nd
          exact nd.2.2
        rw [pair_one nd' hm (List.mem_append_right _ (List.mem_append_left _ k0))]
        exact k0
    have ex : Ext ω ⟨ω.σ, (a, .raw o) :: (lc ++ ω.τ)⟩ := ⟨⟨[], (List.append_nil _).symm⟩, fun p hp => .tail _ (List.mem_append_right _ hp)⟩
    refine q _ h' (some c') [(c', .raw oc)] ⟨ω.σ, (a, .raw o) :: (lc ++ ω.τ)⟩ ⟨oc, t', vs, rfl, d1, d2⟩ (fun p hp => ?_) ex ⟨ls, l, h1.mono ex, h2.mono ex, ⟨S₁.lo, S₁.ld.perm ?_⟩⟩ ⟨_, .lam (.head _) (.tail _ hm) hp, rfl⟩
    · rw [List.mem_singleton.mp hp]; exact .tail _ hm
    · show (l ++ (((a, AObj.raw o) :: (lc ++ ω.τ)) ++ (PA, AObj.raw (tabObj (tabOf (some c')))) :: E)).Perm ((a, AObj.raw o) :: (PA, AObj.raw (tabObj (tabOf (some c')))) :: (lc ++ (l ++ (ω.τ ++ E))))
      refine List.perm_middle.trans (.cons _ ?_)
      have e1 : l ++ ((lc ++ ω.τ) ++ (PA, AObj.raw (tabObj (tabOf (some c')))) :: E) = (l ++ (lc ++ ω.τ)) ++ (PA, AObj.raw (tabObj (tabOf (some c')))) :: E := (List.append_assoc ..).symm
      refine (List.Perm.of_eq e1).trans (List.perm_middle.trans (.cons _ ?_))
      have e2 : (l ++ (lc ++ ω.τ)) ++ E = (l ++ lc) ++ (ω.τ ++ E) := by simp only [List.append_assoc]
      have e3 : lc ++ (l ++ (ω.τ ++ E)) = (lc ++ l) ++ (ω.τ ++ E) := by simp only [List.append_assoc]
      rw [e2, e3]
      exact List.Perm.append_right _ List.perm_append_comm
end
end Mine
namespace Mine
section
variable {c : Cx} {A : Around} {env : Env} {L : Addr} {cl : List (Str × Addr)} {g h : Heap} {c1 c2 : Addr} {Q Q1 : St → Prop} {cA PA : Addr} {cn : Str} {cs : Scope} {fa : Addr} {E : List (Addr × AObj)}
theorem keep210 {P : Params} : keepIn (Mine.hd.heap_1 P) (.ref 210) = true := by kernel_rfl
theorem prev_ok {S : St} {b : Bool} {win : Int} (f : LF c A (envX cn cs L fa (.ref cA) cl) L cl g c1 c2) (C : CodeHd g cA PA)
    (eT : ∀ k, k b S → (run mc 300).te Flaw S wayT k) (eF : ∀ k, k (.glob 210) S → (run mc 300).ev Flaw S prevF k) (e1 : ∀ k, k (.loc 27) S → (run mc 300).ev Flaw S prevA1 k) (e2 : ∀ k, k (.int win) S → (run mc 300).ev Flaw S prevA2 k)
    (eC : (run mc 300).ca 60 S 210 [.loc 27, .int win, .lam] (fun _ => tidyR [] Q1)) (eR : ∀ s, Q1 s → (run mc 300).xs Flaw s prevRest (nextK (tidyR [] Q) fun _ _ => False)) (eN : b = false → Q S)
    (a : AtL c g L PA E (envX cn cs L fa (.ref cA) cl).qual c1 c2 (fun s => s = S) h) :
    W c A (execs (loopBody.drop 4 |>.take 1) (envX cn cs L fa (.ref cA) cl)) h (fun fl h' => fl = .next ∧ AtL c g L PA E (envX cn cs L fa (.ref cA) cl).qual c1 c2 Q h') := by
  rw [if_is]
  obtain ⟨tb, τ₀, t, ω, m, s, Cc, z, R, rfl⟩ := a
  refine execs_cons (x_if ((snd.te (eT (fun b' s' => b' = b ∧ s' = s) ⟨rfl, rfl⟩) (f.fr Cc) R _ (fun _ => rfl)).mono ?_))
  rintro b' h₁ ⟨ω₁, s₁, x₁, R₁, rfl, rfl⟩
  cases b' with
  | false => exact execs_nil (execs_nil ⟨rfl, tb, τ₀, t, ω₁, m, s₁, Cc.mono x₁, fun p hp => x₁.2 p (z p hp), R₁, eN rfl⟩)
  | true =>
    rw [if_pos rfl]
    refine execs_cons (x_expr f.fo (e_call ((snd.ev (eF (fun v s' => v = .glob 210 ∧ s' = s₁) ⟨rfl, rfl⟩) (f.fr (Cc.mono x₁)) R₁).mono ?_) rfl) (by with_unfolding_all rfl))
    rintro fv h₂ ⟨ω₂, v, s₂, x₂, R₂, hv, rfl, rfl⟩
    have := hv.glob
    subst this
    have X := f.fo.X
    refine cw_G X keep210 rfl (R₂.inK X) (fun he => by cases he) ?_
    refine sp_cons ((snd.ev (e1 (fun v s' => v = .loc 27 ∧ s' = s₂) ⟨rfl, rfl⟩) (f.fr ((Cc.mono x₁).mono x₂)) R₂).mono ?_) rfl
    rintro v1 h₃ ⟨ω₃, v, s₃, x₃, R₃, hv1, rfl, rfl⟩
    refine sp_cons ((snd.ev (e2 (fun v s' => v = .int win ∧ s' = s₃) ⟨rfl, rfl⟩) (f.fr (((Cc.mono x₁).mono x₂).mono x₃)) R₃).mono ?_) rfl
    rintro v2 h₄ ⟨ω₄, v, s₄, x₄, R₄, hv2, rfl, rfl⟩
    have x := ((x₁.trans x₂).trans x₃).trans x₄
    refine sp_cons (lam_made f C t (fun p hp => x.2 p (z p hp)) R₄ fun y h₅ tb' τ' ω₅ t' z' x₅ R₅ hy => sp_nil ?_) rfl
    refine ⟨R₅.inK X, (snd.ca eC f.fo R₅ (.cons ((hv1.mono x₄).mono x₅) (.cons (hv2.mono x₅) (.cons hy .nil)))).mono ?_⟩
    rintro rv h₆ ⟨ω₆, v, s₆, x₆, R₆, _, q⟩
    have a' : AtL c g L PA E (envX cn cs L fa (.ref cA) cl).qual c1 c2 (tidyR [] Q1) h₆ := ⟨tb', τ', t', ω₆, m, s₆, ((Cc.mono x).mono x₅).mono x₆, fun p hp => x₆.2 p (z' p hp), R₆, q⟩
    have w := (a'.tidyR).xs f eR
    rw [prevRest_is] at w
    refine w.mono ?_
    rintro fl h₇ ⟨rfl, a''⟩
    exact execs_nil ⟨rfl, a''.tidyR⟩
end
end Mine
namespace Mine
theorem body_is : loopBody = (loopBody.take 4) ++ ((loopBody.drop 4 |>.take 1) ++ ((loopBody.drop 5 |>.take 3) ++ ((loopBody.drop 8 |>.take 1) ++ ((loopBody.drop 9 |>.take 1) ++ ((loopBody.drop 10 |>.take 1) ++ []))))) := by kernel_rfl
theorem dok {ns : List Int} (hp : ∀ x ∈ ns, 0 ≤ x) (hl : ns.length ≤ 63) {j : Int} (h0 : 0 ≤ j) (h1 : j < 1000) : dOk ns j := ⟨hp, hl, h0, h1⟩
structure Wv where
  hb : Int
  hs : Int
  hp : Int
  hh : Int
  hd : Bool
  he : List Rw
  hl : List Rw
  cur : Int
  p1 : Int
  p2 : Int
  p3 : Int
  p4 : Int
noncomputable def recV (v : Wv) : B := recB v.hb v.hs v.hp v.hh v.hd v.he v.hl
noncomputable def mkV (x : Bool) (way oc sp : Option U) (R : B) (ns : List Int) (j : Int) (v : Wv) : St := mkX x way oc sp R ns j v.hb v.hs v.hp v.hh v.hd v.he v.hl v.cur v.p1 v.p2 v.p3 v.p4
noncomputable def inv (x : Bool) (ns : List Int) (t : Nat) (s : St) : Prop := ∃ v : Wv, s = mkV x none none none (recV v) ns (2 + 5 * (t : Int)) v ∧ v.he.length ≤ t ∧ v.hl.length ≤ t
noncomputable def mid (x : Bool) (ns : List Int) (t u : Nat) (s : St) : Prop := ∃ (w : Int) (v : Wv), s = mkV x (some (.int w)) none none (recV v) ns (2 + 5 * (t : Int) + 1 + 1 + 1) v ∧ v.he.length ≤ t ∧ v.hl.length ≤ u
noncomputable def pb (x : Bool) (ns : List Int) (t : Nat) (w : Int) (s : St) : Prop := ∃ u v : Wv, s = mkV x (some (.int w)) none none (recV u) ns (2 + 5 * (t : Int) + 1 + 1 + 1) v ∧ v.he.length ≤ t ∧ v.hl.length ≤ t + 1
noncomputable def nx (x : Bool) (ns : List Int) (t : Nat) (s : St) : Prop := ∃ (w sp : Int) (v : Wv), (((s = mkV x (some (.int w)) (some (.loc 13)) (some (.int sp)) (recV v) ns (2 + 5 * (t : Int) + 1 + 1 + 1 + 1 + 1) v ∧ v.cur = 1 ∧ v.p1 = sp) ∨ (s = mkV x (some (.int w)) (some (.loc 14)) (some (.int sp)) (recV v) ns (2 + 5 * (t : Int) + 1 + 1 + 1 + 1 + 1) v ∧ v.cur = 2 ∧ v.p2 = sp) ∨ (s = mkV x (some (.int w)) (some (.loc 15)) (some (.int sp)) (recV v) ns (2 + 5 * (t : Int) + 1 + 1 + 1 + 1 + 1) v ∧ v.cur = 3 ∧ v.p3 = sp) ∨ (s = mkV x (some (.int w)) (some (.loc 16)) (some (.int sp)) (recV v) ns (2 + 5 * (t : Int) + 1 + 1 + 1 + 1 + 1) v ∧ v.cur = 4 ∧ v.p4 = sp))) ∧ v.he.length ≤ t ∧ v.hl.length ≤ t + 1
end Mine
namespace Mine
theorem in41 {a b c d a' b' c' d' : Prop} (h : (a, b, c, d) = (a', b', c', d')) : a = a' := by cases h; rfl
theorem in42 {a b c d a' b' c' d' : Prop} (h : (a, b, c, d) = (a', b', c', d')) : b = b' := by cases h; rfl
theorem in43 {a b c d a' b' c' d' : Prop} (h : (a, b, c, d) = (a', b', c', d')) : c = c' := by cases h; rfl
theorem in44 {a b c d a' b' c' d' : Prop} (h : (a, b, c, d) = (a', b', c', d')) : d = d' := by cases h; rfl
section
variable {c : Cx} {A : Around} {env : Env} {h : Heap} {P : (St → Prop) → Heap → Prop} {ns : List Int} {x : Bool} {t : Nat}
noncomputable def bv (n pn : Int) (v : Wv) : Wv := ⟨(bh n v.hb v.hs v.hp v.hh v.hd v.he v.hl).b, (bh n v.hb v.hs v.hp v.hh v.hd v.he v.hl).s, pn, (bh n v.hb v.hs v.hp v.hh v.hd v.he v.hl).h, (bh n v.hb v.hs v.hp v.hh v.hd v.he v.hl).d, (bh n v.hb v.hs v.hp v.hh v.hd v.he v.hl).e, (bh n v.hb v.hs v.hp v.hh v.hd v.he v.hl).l, v.cur, v.p1, v.p2, v.p3, v.p4⟩
theorem turn_end {w sp n : Int} {pn : Wv → Int} {lc : Nat} {v : Wv}
    (hx : ∀ {l : List Stmt} {Q Q' : St → Prop} {h : Heap}, P Q h → (∀ s, Q s → (run mc 300).xs Flaw s l (nextK Q' fun _ _ => False)) → W c A (execs l env) h (fun fl h' => fl = .next ∧ P Q' h'))
    (ht : ∀ {fg : List Str} {Q : St → Prop} {h : Heap}, P (tidyR fg Q) h → P Q h)
    (e4 : ∀ (u v : Wv) (Q : St → Prop), v.cur = n → (run mc 300).xs Flaw (mkV x (some (.int w)) (some (.loc lc)) (some (.int sp)) (recV u) ns (2 + 5 * (t : Int) + 1 + 1 + 1 + 1 + 1) v) (loopBody.drop 8 |>.take 1) (nextK (tidyR [] Q) fun _ _ => False) = (R4 x ns (2 + 5 * (t : Int) + 1 + 1 + 1 + 1 + 1) v.hb v.hs v.hp v.hh v.hd v.he v.hl w sp u.hb u.hs u.hp u.hh u.hd u.he u.hl n lc (pn v) v.p1 v.p2 v.p3 v.p4 Q))
    (e5 : ∀ (u v : Wv) (Q : St → Prop), v.cur = n → (run mc 300).xs Flaw (mkV x (some (.int w)) (some (.loc lc)) (some (.int sp)) (recV u) ns (2 + 5 * (t : Int) + 1 + 1 + 1 + 1 + 1) v) (loopBody.drop 9 |>.take 1) (nextK (tidyR [] Q) fun _ _ => False) = (R5 x ns (2 + 5 * (t : Int) + 1 + 1 + 1 + 1 + 1) v.hb v.hs v.hp v.hh v.hd v.he v.hl w sp u.hb u.hs u.hp u.hh u.hd u.he u.hl n lc v.p1 v.p2 v.p3 v.p4 Q))
    (e6 : ∀ (u v : Wv) (Q : St → Prop), v.cur = n → (run mc 300).xs Flaw (mkV x (some (.int w)) (some (.loc lc)) (some (.int sp)) (recV u) ns (2 + 5 * (t : Int) + 1 + 1 + 1 + 1 + 1) v) (loopBody.drop 10 |>.take 1) (nextK (tidyR ["nth", "way", "own_choice", "spot"] Q) fun _ _ => False) = (R6 x ns (2 + 5 * (t : Int) + 1 + 1 + 1 + 1 + 1) v.hb v.hs v.hp v.hh v.hd v.he v.hl sp u.hb u.hs u.hp u.hh u.hd u.he u.hl n (pn v) v.p1 v.p2 v.p3 v.p4 Q))
    (hpn : ∀ v m, pn (bv n m v) = pn v) (hc : v.cur = n) (hsp : pn v = sp) (t60 : t ≤ 60) (le : v.he.length ≤ t) (ll : v.hl.length ≤ t + 1)
    (a : P (fun s => s = mkV x (some (.int w)) (some (.loc lc)) (some (.int sp)) (recV v) ns (2 + 5 * (t : Int) + 1 + 1 + 1 + 1 + 1) v) h) :
    W c A (execs ((loopBody.drop 8 |>.take 1) ++ ((loopBody.drop 9 |>.take 1) ++ ((loopBody.drop 10 |>.take 1) ++ []))) env) h (fun fl h' => fl = .next ∧ P (inv x ns (t + 1)) h') := by
  have bl := bh_len n v.hb v.hs v.hp v.hh v.hd v.he v.hl
  subst hc
  refine execs_app (P := P fun s => s = mkV x (some (.int w)) (some (.loc lc)) (some (.int sp)) (recV v) ns (2 + 5 * (t : Int) + 1 + 1 + 1 + 1 + 1) (bv v.cur (pn v) v)) ((hx a fun s e => e ▸ of1 (e4 v v (fun s => s = mkV x (some (.int w)) (some (.loc lc)) (some (.int sp)) (recV v) ns (2 + 5 * (t : Int) + 1 + 1 + 1 + 1 + 1) (bv v.cur (pn v) v)) rfl) (a4 (by omega) (by omega) rfl)).mono fun _ _ z => ⟨z.1, ht z.2⟩) fun h₁ a₁ => ?_
  refine execs_app (P := P fun s => s = mkV x (some (.int w)) (some (.loc lc)) (some (.int sp)) (recV (bv v.cur sp v)) ns (2 + 5 * (t : Int) + 1 + 1 + 1 + 1 + 1) (bv v.cur (pn v) v)) ((hx a₁ fun s e => e ▸ of1 (e5 v (bv v.cur (pn v) v) (fun s => s = mkV x (some (.int w)) (some (.loc lc)) (some (.int sp)) (recV (bv v.cur sp v)) ns (2 + 5 * (t : Int) + 1 + 1 + 1 + 1 + 1) (bv v.cur (pn v) v)) rfl) (a5 (by omega) (by omega) rfl)).mono fun _ _ z => ⟨z.1, ht z.2⟩) fun h₂ a₂ => ?_
  subst hsp
  have ej : (2 + 5 * (t : Int) + 1 + 1 + 1 + 1 + 1) = 2 + 5 * ((t + 1 : Nat) : Int) := by omega
  have l1 : (bv v.cur (pn v) v).he.length ≤ t + 1 := Nat.le_trans bl.1 (Nat.succ_le_succ le)
  have l2 : (bv v.cur (pn v) v).hl.length ≤ t + 1 := Nat.le_trans bl.2 ll
  refine execs_app (P := P (inv x ns (t + 1))) ((hx a₂ fun s e => e ▸ of1 (e6 (bv v.cur (pn v) v) (bv v.cur (pn v) v) (inv x ns (t + 1)) rfl) (a6 (by omega) (by omega) (hpn _ _) ⟨bv v.cur (pn v) v, by rw [← ej]; rfl, l1, l2⟩)).mono fun _ _ z => ⟨z.1, ht z.2⟩) fun h₃ a₃ => execs_nil ⟨rfl, a₃⟩
theorem turn_gen
    (hx : ∀ {l : List Stmt} {Q Q' : St → Prop} {h : Heap}, P Q h → (∀ s, Q s → (run mc 300).xs Flaw s l (nextK Q' fun _ _ => False)) → W c A (execs l env) h (fun fl h' => fl = .next ∧ P Q' h'))
    (ht : ∀ {fg : List Str} {Q : St → Prop} {h : Heap}, P (tidyR fg Q) h → P Q h)
    (h1 : ∀ {Q : St → Prop} {h : Heap}, P Q h → ∃ s, Q s ∧ P (fun s' => s' = s) h)
    (hw : ∀ (w : Int) (v : Wv) (h : Heap), v.he.length ≤ t → v.hl.length ≤ t → P (fun s => s = mkV x (some (.int w)) none none (recV v) ns (2 + 5 * (t : Int) + 1 + 1 + 1) v) h → W c A (execs (loopBody.drop 4 |>.take 1) env) h (fun fl h' => fl = .next ∧ P (mid x ns t (t + 1)) h'))
    (hpos : ∀ x ∈ ns, 0 ≤ x) (hlen : ns.length ≤ 63) (t60 : t ≤ 60) (a : P (inv x ns t) h) :
    W c A (execs loopBody env) h (fun fl h' => fl = .next ∧ P (inv x ns (t + 1)) h') := by
  rw [body_is]
  have dk : ∀ i : Int, 0 ≤ i → i ≤ 10 → dOk ns (2 + 5 * (t : Int) + i) := fun i i0 i1 => dok hpos hlen (by omega) (by omega)
  have d0 : dOk ns (2 + 5 * (t : Int)) := dok hpos hlen (by omega) (by omega)
  have d1 : dOk ns ((2 + 5 * (t : Int)) + 1) := dok hpos hlen (by omega) (by omega)
  have d2 : dOk ns ((2 + 5 * (t : Int)) + 1 + 1) := dok hpos hlen (by omega) (by omega)
  have d3 : dOk ns (2 + 5 * (t : Int) + 1 + 1 + 1) := dok hpos hlen (by omega) (by omega)
  have d4 : dOk ns ((2 + 5 * (t : Int) + 1 + 1 + 1) + 1) := dok hpos hlen (by omega) (by omega)
  clear dk
  refine execs_app (P := P (mid x ns t t)) (hx a ?_) fun h₁ a₁ => ?_
  · rintro s ⟨v, e, le, ll⟩
    subst e
    exact of31 (st1 (w := 0) (rb := 0) (rs := 0) (rp := 0) (rh := 0) (rd := false) (re := []) (rl := [])) (a1 d0 d1 d2 fun w hs' hh' hd' => ⟨w, ⟨v.hb, hs', v.hp, hh', hd', v.he, v.hl, v.cur, v.p1, v.p2, v.p3, v.p4⟩, rfl, le, ll⟩)
  refine execs_app (P := P (mid x ns t (t + 1))) ?_ fun h₂ a₂ => ?_
  · obtain ⟨s, ⟨w, v, e, le, ll⟩, a'⟩ := h1 a₁
    subst e
    exact hw w v h₁ le ll a'
  refine execs_app (P := P (nx x ns t)) (hx a₂ ?_) fun h₃ a₃ => ?_
  · rintro s ⟨w, v, e, le, ll⟩
    subst e
    exact of33 st1 (a3 d3 d4 (fun sp => ⟨w, sp, ⟨v.hb, v.hs, v.hp, v.hh, v.hd, v.he, v.hl, 1, sp, v.p2, v.p3, v.p4⟩, .inl ⟨rfl, rfl, rfl⟩, le, ll⟩) (fun sp => ⟨w, sp, ⟨v.hb, v.hs, v.hp, v.hh, v.hd, v.he, v.hl, 2, v.p1, sp, v.p3, v.p4⟩, .inr (.inl ⟨rfl, rfl, rfl⟩), le, ll⟩)
      (fun sp => ⟨w, sp, ⟨v.hb, v.hs, v.hp, v.hh, v.hd, v.he, v.hl, 3, v.p1, v.p2, sp, v.p4⟩, .inr (.inr (.inl ⟨rfl, rfl, rfl⟩)), le, ll⟩) (fun sp => ⟨w, sp, ⟨v.hb, v.hs, v.hp, v.hh, v.hd, v.he, v.hl, 4, v.p1, v.p2, v.p3, sp⟩, .inr (.inr (.inr ⟨rfl, rfl, rfl⟩)), le, ll⟩))
  obtain ⟨s, ⟨w, sp, v, q, le, ll⟩, a'⟩ := h1 a₃
  rcases q with ⟨e, hc, hp⟩ | ⟨e, hc, hp⟩ | ⟨e, hc, hp⟩ | ⟨e, hc, hp⟩ <;> subst e
  · exact turn_end (n := 1) (pn := Wv.p1) hx ht (fun u v Q hc => by obtain ⟨_, _, _, _, _, _, _, _, _, _, _, _⟩ := v; cases hc; exact in41 st4) (fun u v Q hc => by obtain ⟨_, _, _, _, _, _, _, _, _, _, _, _⟩ := v; cases hc; exact in41 st5) (fun u v Q hc => by obtain ⟨_, _, _, _, _, _, _, _, _, _, _, _⟩ := v; cases hc; exact in41 st6) (fun _ _ => rfl) hc hp t60 le ll a'
  · exact turn_end (n := 2) (pn := Wv.p2) hx ht (fun u v Q hc => by obtain ⟨_, _, _, _, _, _, _, _, _, _, _, _⟩ := v; cases hc; exact in42 st4) (fun u v Q hc => by obtain ⟨_, _, _, _, _, _, _, _, _, _, _, _⟩ := v; cases hc; exact in42 st5) (fun u v Q hc => by obtain ⟨_, _, _, _, _, _, _, _, _, _, _, _⟩ := v; cases hc; exact in42 st6) (fun _ _ => rfl) hc hp t60 le ll a'
  · exact turn_end (n := 3) (pn := Wv.p3) hx ht (fun u v Q hc => by obtain ⟨_, _, _, _, _, _, _, _, _, _, _, _⟩ := v; cases hc; exact in43 st4) (fun u v Q hc => by obtain ⟨_, _, _, _, _, _, _, _, _, _, _, _⟩ := v; cases hc; exact in43 st5) (fun u v Q hc => by obtain ⟨_, _, _, _, _, _, _, _, _, _, _, _⟩ := v; cases hc; exact in43 st6) (fun _ _ => rfl) hc hp t60 le ll a'
  · exact turn_end (n := 4) (pn := Wv.p4) hx ht (fun u v Q hc => by obtain ⟨_, _, _, _, _, _, _, _, _, _, _, _⟩ := v; cases hc; exact in44 st4) (fun u v Q hc => by obtain ⟨_, _, _, _, _, _, _, _, _, _, _, _⟩ := v; cases hc; exact in44 st5) (fun u v Q hc => by obtain ⟨_, _, _, _, _, _, _, _, _, _, _, _⟩ := v; cases hc; exact in44 st6) (fun _ _ => rfl) hc hp t60 le ll a'
end
section
variable {c : Cx} {A : Around} {L : Addr} {cl : List (Str × Addr)} {g h : Heap} {c1 c2 : Addr} {cA PA : Addr} {cn : Str} {cs : Scope} {fa : Addr} {ns : List Int} {Q : St → Prop} {qual : Str} {E : List (Addr × AObj)} {x : Bool} {t : Nat}
theorem AtL.one (a : AtL c g L PA E qual c1 c2 Q h) : ∃ s, Q s ∧ AtL c g L PA E qual c1 c2 (fun s' => s' = s) h := let ⟨tb, τ₀, t, ω, m, s, C, z, R, q⟩ := a; ⟨s, q, tb, τ₀, t, ω, m, s, C, z, R, rfl⟩
theorem pb_ok {w : Int} {v : Wv} (t60 : t ≤ 60) (le : v.he.length ≤ t) (ll : v.hl.length ≤ t) : (run mc 300).ca 60 (mkV x (some (.int w)) none none (recV v) ns (2 + 5 * (t : Int) + 1 + 1 + 1) v) 210 [.loc 27, .int (winX x), .lam] (fun _ => tidyR [] (pb x ns t w)) :=
  of1 st2 (a2 (by omega) (by omega) fun hb' hs' hp' hh' he' hl' l1 l2 => ⟨v, ⟨hb', hs', hp', hh', v.hd, he', hl', v.cur, v.p1, v.p2, v.p3, v.p4⟩, rfl, Nat.le_trans l1 le, Nat.le_trans l2 (Nat.succ_le_succ ll)⟩)
theorem pbR_ok {w : Int} (t60 : t ≤ 60) : ∀ s, pb x ns t w s → (run mc 300).xs Flaw s prevRest (nextK (tidyR [] (mid x ns t (t + 1))) fun _ _ => False) := by
  rintro s ⟨u, v, e, l1, l2⟩
  subst e
  exact of32 st1 (a2r (by omega) (by omega) ⟨w, v, rfl, l1, l2⟩)
theorem way_ok (f : LF c A (envX cn cs L fa (.ref cA) cl) L cl g c1 c2) (C : CodeHd g cA PA) (t60 : t ≤ 60) (w : Int) (v : Wv) (h : Heap) (le : v.he.length ≤ t) (ll : v.hl.length ≤ t)
    (a : AtL c g L PA E (envX cn cs L fa (.ref cA) cl).qual c1 c2 (fun s => s = mkV x (some (.int w)) none none (recV v) ns (2 + 5 * (t : Int) + 1 + 1 + 1) v) h) :
    W c A (execs (loopBody.drop 4 |>.take 1) (envX cn cs L fa (.ref cA) cl)) h (fun fl h' => fl = .next ∧ AtL c g L PA E (envX cn cs L fa (.ref cA) cl).qual c1 c2 (mid x ns t (t + 1)) h') := by
  have e : ∀ (k1 : Bool → St → Prop) (k : U → St → Prop), (((run mc 300).te Flaw (mkV x (some (.int w)) none none (recV v) ns (2 + 5 * (t : Int) + 1 + 1 + 1) v) wayT k1, (run mc 300).ev Flaw (mkV x (some (.int w)) none none (recV v) ns (2 + 5 * (t : Int) + 1 + 1 + 1) v) prevF k, (run mc 300).ev Flaw (mkV x (some (.int w)) none none (recV v) ns (2 + 5 * (t : Int) + 1 + 1 + 1) v) prevA1 k, (run mc 300).ev Flaw (mkV x (some (.int w)) none none (recV v) ns (2 + 5 * (t : Int) + 1 + 1 + 1) v) prevA2 k) : Prop × Prop × Prop × Prop) = (k1 (w == 4) (mkV x (some (.int w)) none none (recV v) ns (2 + 5 * (t : Int) + 1 + 1 + 1) v), k (.glob 210) (mkV x (some (.int w)) none none (recV v) ns (2 + 5 * (t : Int) + 1 + 1 + 1) v), k (.loc 27) (mkV x (some (.int w)) none none (recV v) ns (2 + 5 * (t : Int) + 1 + 1 + 1) v), k (.int (winX x)) (mkV x (some (.int w)) none none (recV v) ns (2 + 5 * (t : Int) + 1 + 1 + 1) v)) := fun k1 k => ev4
  have eC := pb_ok (x := x) (ns := ns) (w := w) t60 le ll
  have eN : (w == 4) = false → mid x ns t (t + 1) (mkV x (some (.int w)) none none (recV v) ns (2 + 5 * (t : Int) + 1 + 1 + 1) v) := fun _ => ⟨w, v, rfl, le, Nat.le_succ_of_le ll⟩
  revert a e eC eN
  generalize mkV x (some (.int w)) none none (recV v) ns (2 + 5 * (t : Int) + 1 + 1 + 1) v = S
  intro a e eC eN
  exact prev_ok f C (fun k hk => of41 (e k fun _ _ => True) hk) (fun k hk => of42 (e (fun _ _ => True) k) hk) (fun k hk => of43 (e (fun _ _ => True) k) hk) (fun k hk => of44 (e (fun _ _ => True) k) hk) eC (pbR_ok t60) eN a
theorem turn_ok (f : LF c A (envX cn cs L fa (.ref cA) cl) L cl g c1 c2) (C : CodeHd g cA PA) (hpos : ∀ x ∈ ns, 0 ≤ x) (hlen : ns.length ≤ 63) (t60 : t ≤ 60) (a : AtL c g L PA E (envX cn cs L fa (.ref cA) cl).qual c1 c2 (inv x ns t) h) :
    W c A (execs loopBody (envX cn cs L fa (.ref cA) cl)) h (fun fl h' => fl = .next ∧ AtL c g L PA E (envX cn cs L fa (.ref cA) cl).qual c1 c2 (inv x ns (t + 1)) h') :=
  turn_gen (P := AtL c g L PA E (envX cn cs L fa (.ref cA) cl).qual c1 c2) (fun a e => a.xs f e) (fun a => a.tidyR) (fun a => a.one) (fun w v h le ll a => way_ok f C t60 w v h le ll a) hpos hlen t60 a
end
end Mine
namespace Mine
noncomputable def rP1 : Pos := ⟨727, 8, 727, 11⟩
noncomputable def rP2 : Pos := ⟨727, 15, 727, 44⟩
noncomputable def rP3 : Pos := ⟨727, 4, 742, 24⟩
noncomputable def rP4 : Pos := ⟨743, 4, 743, 15⟩
noncomputable def rP5 : Pos := ⟨727, 15, 727, 20⟩
noncomputable def rgA : Expr := .BinOp (.Constant (.int 1) 0 ⟨727, 21, 727, 22⟩) .Add (.Call (.Name ("_law_draw" : Str) ⟨727, 25, 727, 34⟩) [.Name ("deck" : Str) ⟨727, 35, 727, 39⟩, .Constant (.int 9) 0 ⟨727, 41, 727, 42⟩] [] ⟨727, 25, 727, 43⟩) ⟨727, 21, 727, 43⟩
noncomputable def rgT : Expr := .Constant (.bool true) 0 ⟨743, 11, 743, 15⟩
theorem rest_is : lawF.body.drop 11 = [.For (.Name ("nth" : Str) rP1) (.Call (.Name ("range" : Str) rP5) [rgA] [] rP2) loopBody [] rP3, .Return (some rgT) rP4] := by kernel_rfl
theorem rgT_is {s : St} {k : U → St → Prop} : (run mc 300).ev Flaw s rgT k = k (.bool true) s := by kernel_rfl
theorem rg_blt : bltI mc Flaw ("range" : Str) = some .range := by kernel_rfl
section
variable {x : Bool} {ns : List Int} {j hb hs hp hh w : Int} {hd : Bool} {he hl : List Rw} {cur p1 p2 p3 p4 : Int} {R : B} {k : U → St → Prop} {kk : St → Prop}
theorem rgA_is : (run mc 300).ev Flaw (mkX x none none none R ns j hb hs hp hh hd he hl cur p1 p2 p3 p4) rgA k = (dOk ns j ∧ ∀ r : Int, 0 ≤ r → r < 9 → k (.int (1 + r)) (mkX x none none none R ns (j + 1) hb hs hp hh hd he hl cur p1 p2 p3 p4)) := by cases x <;> kernel_rfl
theorem nth_is {i : Int} : storeI Flaw (mkX x none none none R ns j hb hs hp hh hd he hl cur p1 p2 p3 p4) ("nth" : Str) (.int i) (fun s => kk ⟨fgLs ["nth"] s.ls, s.os⟩) = kk (mkX x none none none R ns j hb hs hp hh hd he hl cur p1 p2 p3 p4) := by cases x <;> kernel_rfl
end
noncomputable def rI (x left : Int) : Obj := { cls := .type "range_iterator", dict := none, data := .fields #[rawInt x, rawInt left, rawInt 1], slots := #[] }
section
variable {c : Cx} {A : Around} {L : Addr} {cl : List (Str × Addr)} {g h h' : Heap} {c1 c2 : Addr} {cA PA : Addr} {cn : Str} {cs : Scope} {fa : Addr} {ns : List Int} {Q : St → Prop} {qual : Str} {E : List (Addr × AObj)} {it : Addr} {o o' : Obj}
theorem AtL.ext (a : AtL c g L PA E qual c1 c2 Q h) (hk : ∀ b o, h.get? b = some o → h'.get? b = some o) : AtL c g L PA E qual c1 c2 Q h' := by
  obtain ⟨tb, τ₀, t, ω, m, s, C, z, ⟨ls, l, h1, h2, S⟩, q⟩ := a
  exact ⟨tb, τ₀, t, ω, m, s, C, z, ⟨ls, l, h1, h2, S.ext hk⟩, q⟩
theorem AtL.alloc (a : AtL c g L PA E qual c1 c2 Q h) (hf : o.isFreed = false) : AtL c g L PA ((h.objs.size, .raw o) :: E) qual c1 c2 Q (h.push o) := by
  obtain ⟨tb, τ₀, t, ω, m, s, C, z, ⟨ls, l, h1, h2, S⟩, q⟩ := a
  have S' := S.alloc (o := o) (x := .raw o) rfl hf
  refine ⟨tb, τ₀, t, ω, m, s, C, z, ⟨ls, l, h1, h2, S'.lo, S'.ld.perm ?_⟩, q⟩
  have e1 : l ++ (ω.τ ++ (PA, AObj.raw (tabObj (tabOf tb))) :: (h.objs.size, .raw o) :: E) = (l ++ ω.τ ++ [(PA, AObj.raw (tabObj (tabOf tb)))]) ++ (h.objs.size, .raw o) :: E := by simp only [List.append_assoc, List.cons_append, List.nil_append]
  have e2 : l ++ (ω.τ ++ (PA, AObj.raw (tabObj (tabOf tb))) :: E) = (l ++ ω.τ ++ [(PA, AObj.raw (tabObj (tabOf tb)))]) ++ E := by simp only [List.append_assoc, List.cons_append, List.nil_append]
  rw [e1, e2]
  exact List.perm_middle
theorem it_perm {l τ : List (Addr × AObj)} {p q : Addr × AObj} : (l ++ (τ ++ p :: q :: E)).Perm (q :: (l ++ (τ ++ p :: E))) := by
  have e1 : l ++ (τ ++ p :: q :: E) = (l ++ τ ++ [p]) ++ q :: E := by simp only [List.append_assoc, List.cons_append, List.nil_append]
  have e2 : l ++ (τ ++ p :: E) = (l ++ τ ++ [p]) ++ E := by simp only [List.append_assoc, List.cons_append, List.nil_append]
  rw [e1, e2]
  exact List.perm_middle
theorem AtL.at_ (a : AtL c g L PA ((it, .raw o) :: E) qual c1 c2 Q h) : h.get? it = some o := by
  obtain ⟨tb, τ₀, t, ω, m, s, C, z, ⟨ls, l, h1, h2, S⟩, q⟩ := a
  obtain ⟨o', e, e'⟩ := S.at (List.mem_append_right _ (List.mem_append_right _ (.tail _ (.head _))))
  cases e'
  exact e
theorem AtL.same (a : AtL c g L PA ((it, .raw o) :: E) qual c1 c2 Q h) (hs : Heap.SameBut it h h') (e : h'.get? it = some o') : AtL c g L PA ((it, .raw o') :: E) qual c1 c2 Q h' := by
  obtain ⟨tb, τ₀, t, ω, m, s, C, z, ⟨ls, l, h1, h2, S⟩, q⟩ := a
  refine ⟨tb, τ₀, t, ω, m, s, C, z, ⟨ls, l, h1, h2, S.lo, ?_⟩, q⟩
  exact ((S.ld.perm it_perm.symm).same (x' := .raw o') .head hs e rfl).perm it_perm
theorem AtL.but (a : AtL c g L PA ((it, .raw o) :: E) qual c1 c2 Q h) (hk : ∀ b o, b ≠ it → h.get? b = some o → h'.get? b = some o) : AtL c g L PA E qual c1 c2 Q h' := by
  obtain ⟨tb, τ₀, t, ω, m, s, C, z, ⟨ls, l, h1, h2, S⟩, q⟩ := a
  exact ⟨tb, τ₀, t, ω, m, s, C, z, ⟨ls, l, h1, h2, S.lo, (S.ld.perm it_perm.symm).but hk⟩, q⟩
theorem AtL.nth (f : LF c A (envX cn cs L fa (.ref cA) cl) L cl g c1 c2) {i : Int} {tk : Tok} (e : ∀ s, Q s → storeI Flaw s ("nth" : Str) (.int i) (fun s => Q ⟨fgLs ["nth"] s.ls, s.os⟩)) (a : AtL c g L PA E qual c1 c2 Q h) :
    W c A (storeName (envX cn cs L fa (.ref cA) cl) ("nth" : Str) (.int i tk)) h (fun _ h' => AtL c g L PA E qual c1 c2 Q h') := by
  obtain ⟨tb, τ₀, t, ω, m, s, C, z, R, q⟩ := a
  obtain ⟨cl', fo, hcr⟩ := (f.fr (own := []) C).top rfl
  refine (storeI_ok fo hcr R (v := .int i) ⟨_, .int, tk, rfl⟩ (e s q)).mono ?_
  rintro _ h' ⟨m', s', R', q'⟩
  exact ⟨tb, τ₀, t, ω, m', _, C, z, fg_ok ["nth"] R', q'⟩
theorem loop_ok {Q0 : St → Prop} {inv : Nat → St → Prop} (f : LF c A (envX cn cs L fa (.ref cA) cl) L cl g c1 c2)
    (e0 : ∀ s, Q0 s → (run mc 300).ev Flaw s rgA (fun v s' => ∃ N : Nat, v = .int N ∧ N ≤ 10 ∧ inv 0 s'))
    (e1 : ∀ t i s, inv t s → storeI Flaw s ("nth" : Str) (.int i) (fun s => inv t ⟨fgLs ["nth"] s.ls, s.os⟩))
    (turn : ∀ t E h, t ≤ 60 → AtL c g L PA E qual c1 c2 (inv t) h → W c A (execs loopBody (envX cn cs L fa (.ref cA) cl)) h (fun fl h' => fl = .next ∧ AtL c g L PA E qual c1 c2 (inv (t + 1)) h'))
    (a : AtL c g L PA [] qual c1 c2 Q0 h) : W c A (execs (lawF.body.drop 11) (envX cn cs L fa (.ref cA) cl)) h (fun fl h' => fl = .ret (.bool true) ∧ ∃ t, AtL c g L PA [] qual c1 c2 (inv t) h') := by
  rw [rest_is]
  obtain ⟨tb, τ₀, t, ω, m, s, Cc, z, R, q⟩ := a
  refine execs_cons (x_for (e_call ((f.fr (own := []) Cc).blt R rg_blt ?_) rfl) (fun _ _ => rfl) (fun _ => rfl))
  refine cw_T rfl (by simp) (sp_cons ((snd.ev (e0 s q) (f.fr Cc) R).mono ?_) rfl)
  rintro y h₁ ⟨ω₁, v, s₁, x₁, R₁, hv, N, rfl, hN, i0⟩
  refine sp_nil ?_
  obtain ⟨av, ur, is⟩ := hv
  cases ur
  obtain ⟨tn, rfl⟩ := is
  have a₁ : AtL c g L PA [] qual c1 c2 (inv 0) h₁ := ⟨tb, τ₀, t, ω₁, m, s₁, Cc.mono x₁, fun p hp => x₁.2 p (z p hp), R₁, i0⟩
  intro tk
  refine (R₁).use fun ls l k1 k2 S => ?_
  obtain ⟨rr, hrr, NN⟩ := S.ld.nw
  refine range1_rows (s := ⟨h₁, c.g, c.d, tk, c.o⟩) S.ld.fr NN fun h₂ tk₂ t₁ u₁ v₁ hr _ _ keep => ?_
  refine ⟨h₂, tk₂, rfl, fun tk₃ => ?_⟩
  refine wpAny_pyIter_range (s := ⟨h₂, c.g, c.d, tk₃, c.o⟩) hr (small_one (by omega) (by omega) (by omega) (by omega)) ⟨_, tk₃, rfl, ?_⟩
  have a₂ := (a₁.ext keep).alloc (o := rI 0 (Builtin.Range.rangeSize 0 N 1)) rfl
  rw [rangeSize_nat] at a₂ ⊢
  refine ForP.mk (fun n h => ∃ t : Nat, n + t = N ∧ AtL c g L PA [(h₂.objs.size, .raw (rI (0 + t) (N - t)))] qual c1 c2 (inv t) h) N ⟨0, by omega, by simpa [rI] using a₂⟩ ?_
  rintro n h₃ ⟨t, hn, a₃⟩
  intro tk₄
  by_cases hz : n = 0
  · have : (N : Int) - t = 0 := by omega
    refine wpAny_pyNext_range_end (s := ⟨h₃, c.g, c.d, tk₄, c.o⟩) f.fo.hh (x := 0 + (t : Int)) (left := N - t) (step := 1) a₃.at_ (by omega) fun h₄ eb => ⟨h₄, tk₄, rfl, ?_⟩
    refine execs_nil ?_
    have a₄ := a₃.but (h' := h₄) fun b o ne e => eb b o ne e
    refine execs_cons (x_ret ?_)
    obtain ⟨tb, τ₀, t', ω, m, s, Cc, z, R, q⟩ := a₄
    refine (snd.ev (rgT_is.symm ▸ (⟨rfl, rfl⟩ : U.bool true = .bool true ∧ s = s) : (run mc 300).ev Flaw s rgT (fun v s' => v = .bool true ∧ s' = s)) (f.fr Cc) R).mono ?_
    rintro y h₅ ⟨ω₁, v, s₁, x₁, R₁, hv, rfl, rfl⟩
    obtain ⟨av, ur, is⟩ := hv
    cases ur
    cases is
    exact ⟨rfl, t, tb, τ₀, t', ω₁, m, s₁, Cc.mono x₁, fun p hp => x₁.2 p (z p hp), R₁, q⟩
  · refine wpAny_pyNext_range_item (s := ⟨h₃, c.g, c.d, tk₄, c.o⟩) (x := 0 + (t : Int)) (left := N - t) (step := 1) a₃.at_ (by omega) fun h₄ hit sb => ⟨h₄, tk₄ + 1, rfl, ?_⟩
    have a₄ := a₃.same (o' := rI (0 + t + 1) (N - t - 1)) sb hit
    refine as_name ((AtL.nth f (fun s q => e1 t _ s q) a₄).mono fun _ h₅ a₅ => ?_)
    refine (turn t _ h₅ (by omega) a₅).mono ?_
    rintro fl h₆ ⟨rfl, a₆⟩
    refine ⟨n - 1, by omega, t + 1, by omega, ?_⟩
    have e1 : (0 + (t : Int) + 1) = 0 + ((t + 1 : Nat) : Int) := by omega
    have e2 : (N : Int) - t - 1 = N - ((t + 1 : Nat) : Int) := by omega
    rw [e1, e2] at a₆
    exact a₆
end
end Mine
namespace Mine
theorem ints_av {vs : List Value} {ns : List Int} (h : IntsAre vs ns) : AVs (ns.map .int) vs := by
  induction h with
  | nil => exact .nil
  | cons n t _ ih => exact .cons ⟨t, rfl⟩ ih
theorem ints_len {vs : List Value} {ns : List Int} (h : IntsAre vs ns) : vs.length = ns.length := by
  have := (ints_av h).length
  rw [List.length_map] at this
  exact this.symm
section
variable {K : Frag} {c : Cx} {A : Around} {env : Env} {nm : List (Str × NameKind)} {L : Addr} {cl : List (Str × Addr)} {g h : Heap} {n : Nat} {m : Str → Option Value} {ls ls' : List (Str × Option AV)} {l l' : List (Addr × AObj)}
theorem i_sliceC {value slice : Expr} {S sl : Addr} {vs : List Value} {ns : List Int} {vu : Value} {ops : List Value} {hi : Int} {Q : Value → Heap → Prop} (D : ST c g L m ls h l) (hg : g.IsList S vs.toArray) (hn : IntsAre vs ns) (hsl : (sl, .raw (sliceO .none vu .none)) ∈ l)
    (pu : IsPart vu (some hi)) (h0 : 0 ≤ hi) (hz : vs.length ≤ 1000000) (q : ∀ r h', ST c g L m ls h' ((r, .lst ((ns.take hi.toNat).map .int)) :: l) → Q (.ref r) h')
    (hs : subscripted slice false (.ref S) (.ref sl) = operate ops (getItem (.ref S) (.ref sl))) (ht : ∀ r, letTemporaryGo value (.ref S) r = pure ()) :
    W c A (subscriptTail value slice (.ref S) (.ref sl)) h Q := fun tk => by
  obtain ⟨o, h4, h5⟩ := D.at hsl
  cases h5
  have hL : h.IsList S vs.toArray := by
    obtain ⟨o, e, r⟩ := hg
    exact ⟨o, D.ld.fr.keep _ _ e, r⟩
  have hp := kmk_upto hn h0
  refine subscriptTail_ops (s := ⟨h, c.g, c.d, tk, c.o⟩) hL.typeIs list_getitem_lookup (wpAny_getItem_list_slice hL ⟨_, h4, rfl, rfl⟩ .none pu .none (by simp) ⟨_, tk, rfl, q _ _ (D.alloc (x := .lst _) ⟨(slicePick vs.toArray none (some hi) none).toList, 0, ?_, ?_⟩ rfl)⟩ (by rw [List.size_toArray, sizeLine_eq]; omega)) hs ht
  · rw [Array.toArray_toList]
  · exact ints_av hp
end
noncomputable def dScope : Scope := ⟨.function, [((".0" : Str), .local), ("cell", .local), ("abs", .globalImplicit)], false, false, []⟩
noncomputable def deckSt : List Stmt := [.Assign [.Name ("deck" : Str) ⟨714, 4, 714, 8⟩] (.List [.ListComp (.Call (.Name ("abs" : Str) ⟨714, 13, 714, 16⟩) [.Name ("cell" : Str) ⟨714, 17, 714, 21⟩] [] ⟨714, 13, 714, 22⟩)
  [⟨.Name ("cell" : Str) ⟨714, 27, 714, 31⟩, .Subscript (.Name ("script" : Str) ⟨714, 35, 714, 41⟩) (.Slice none (some (.Constant (.int 63) 0 ⟨714, 43, 714, 45⟩)) none ⟨714, 42, 714, 45⟩) ⟨714, 35, 714, 46⟩, [], 0⟩] dScope ⟨714, 12, 714, 47⟩,
  .Constant (.int 0) 0 ⟨714, 49, 714, 50⟩] ⟨714, 11, 714, 51⟩) ⟨714, 4, 714, 51⟩]
theorem deck_is : lawF.body.take 1 = deckSt := by kernel_rfl
theorem abs_none (P : Params) : nsIn (Mine.hd.heap_1 P) mainGlobals ("abs" : Str) = some none := by kernel_rfl
noncomputable def absI (i : Int) : Int := if i < 0 then -i else i
noncomputable def locA (a b : Option AV) : List (Str × Option AV) := [(("script" : Str), a), (("deck" : Str), b), (("nth" : Str), none), (("own_made" : Str), none), (("own_buffer" : Str), none), (("second" : Str), none), (("there" : Str), none), (("record" : Str), none), (("untouched" : Str), none), (("way" : Str), none), (("own_choice" : Str), none), (("spot" : Str), none)]
noncomputable def locU (b : Option U) : List (Str × Option U) := [(("script" : Str), none), (("deck" : Str), b), (("nth" : Str), none), (("own_made" : Str), none), (("own_buffer" : Str), none), (("second" : Str), none), (("there" : Str), none), (("record" : Str), none), (("untouched" : Str), none), (("way" : Str), none), (("own_choice" : Str), none), (("spot" : Str), none)]
theorem locA_nd {a b : Option AV} : ((locA a b).map (·.1)).Nodup := by
  show ((["script", "deck", "nth", "own_made", "own_buffer", "second", "there", "record", "untouched", "way", "own_choice", "spot"] : List String).map Str.ofString).Nodup
  decide
theorem law_locs {a : AV} : locsA lawF.nm [(("script" : Str), a)] = locA (some a) none := by kernel_rfl
theorem law_locsU {u : U} : locsOf lawF.nm [(("deck" : Str), u)] = locU (some u) := by kernel_rfl
theorem k_script : lawF.nm.lookup ("script" : Str) = some .local := by kernel_rfl
theorem k_deck : lawF.nm.lookup ("deck" : Str) = some .local := by kernel_rfl
noncomputable def sDeck (ns : List Int) : St := ⟨locsOf lawF.nm [(("deck" : Str), .loc 0)], [.lst [.nums ns, .int 0], .cell none, .cell none]⟩
theorem sDeck_is {ns : List Int} {k : St → Prop} (h : s00 ns k) : k (sDeck ns) := forceLs_is (k := fun ls => k ⟨ls, [.lst [.nums ns, .int 0], .cell none, .cell none]⟩) h
section
variable {c : Cx} {A : Around} {env : Env} {L : Addr} {cl : List (Str × Addr)} {g h : Heap} {m : Str → Option Value} {c1 c2 sa : Addr} {PA : Addr} {qual : Str} {vs : List Value} {ns : List Int}
theorem abs_turn {e : Int} {C : Addr} {oC : Obj} {m₂ : Str → Option Value} {ls : List (Str × Option AV)} {l : List (Addr × AObj)} {p1 p2 p3 : Pos} (f : FO (Mine.hd.heap_1 c.w.params) c A env lawF.nm L cl g 60) (co : CO ("cell" : Str) (.int e) oC m₂) (hm : (C, AObj.raw oC) ∈ l) (S : ST c g L m ls h l) :
    W c A (eval (.Call (.Name ("abs" : Str) p1) [.Name ("cell" : Str) p2] [] p3) (compEnvC dScope [] C env)) h (fun y h'' => AV.is (.int (absI e)) y ∧ ST c g L m ls h'' l) := by
  obtain ⟨p, loose, mean, mg, mb, T⟩ := f.T
  obtain ⟨cn, cs, a, ccd, he, hn', hkd⟩ := f.env_
  refine e_call (fun tk => ?_) rfl
  refine LCgL.ld_built (s := ⟨h, c.g, c.d, tk, c.o⟩) S.ld.fr f.X T (abs_none _) boot_abs (by decide) ⟨_, _, rfl, ?_⟩ (by rw [he]) (by rw [he]) rfl (relabel_glob rfl) (by decide)
  refine cw_b1 (sp_cons (co_name rfl (by decide) rfl co hm S (AV.all_int fun t => sp_nil ?_)) rfl) rfl rfl
  intro tk
  exact call_abs_int (s := ⟨h, c.g, c.d, tk, c.o⟩) fun u tk' => ⟨h, tk', rfl, ⟨u, rfl⟩, S⟩
theorem deck_ok (f : LF c A env L cl g c1 c2) (S : ST c g L m (locsA lawF.nm [("script", .ref sa)]) h [(c2, .cell none), (c1, .cell none), (PA, .raw (tabObj #[]))]) (hg : g.IsList sa vs.toArray) (hI : IntsAre vs ns) (hz : ns.length ≤ 63) :
    W c A (execs (lawF.body.take 1) env) h (fun fl h' => fl = .next ∧ AtL c g L PA [] qual c1 c2 (fun s => s = sDeck (ns.map absI)) h') := by
  rw [deck_is]
  rw [law_locs] at S
  have fo := f.fo
  refine execs_cons (x_assign (e_list (sp_cons ?_ rfl)) rfl)
  refine comp_M (cl' := []) (f := absI) fo S (closureFor_none (by decide)) (by decide) rfl (by decide) rfl ?_ (fun _ => rfl)
  refine e_sub (n_loc fo S (mem_lookup k_script) (.head _) (AV.all_ref ?_) (by decide))
  refine e_slice (p_none (p_some (l_int fun t63 => p_none fun sl h₁ hS => ?_)))
  have S₁ := hS _ _ _ _ _ S
  refine i_sliceC S₁ hg hI (.head _) (.int 63 t63) (by decide) (by have := ints_len hI; omega) (fun r h₂ S₂ => ?_) (by with_unfolding_all rfl) (by intro _; with_unfolding_all rfl)
  rw [show (63 : Int).toNat = 63 from rfl, List.take_of_length_le hz] at S₂
  unfold SrcM
  refine ⟨r, ns, _, rfl, S₂, by omega, fun e C oC m₂ I oI D oD oax h' he co S' => abs_turn fo co (.tail _ (.head _)) S', fun D h₃ S₃ => ?_⟩
  refine sp_cons (l_int fun t0 => sp_nil ?_) rfl
  refine n_lst S₃ (vs := [.ref D, .int 0]) (.cons rfl (.cons ⟨t0, rfl⟩ .nil)) (Nat.le_of_ble_eq_true rfl) fun d h₄ S₄ => ?_
  refine st_loc fo S₄ (mem_lookup k_deck) (.tail .head) (av := .ref d) rfl fun h₅ m₅ S₅ => ?_
  refine execs_nil ⟨rfl, none, [], rfl, ⟨[d, c1, c2], [(D, .lst ((ns.map absI).map .int))]⟩, m₅, _, ⟨rfl, rfl⟩, (fun _ hp => nomatch hp), ⟨?_⟩, rfl⟩
  refine ⟨locA none (some (.ref d)),
    [(d, .lst [.ref D, .int 0]), (c1, .cell none), (c2, .cell none)], ?_, ?_, ?_⟩
  · show LRs _ _ (locsOf lawF.nm [(("deck" : Str), .loc 0)]) _
    rw [law_locsU]
    exact .nay (.yea (.loc rfl) (.nay (.nay (.nay (.nay (.nay (.nay (.nay (.nay (.nay (.nay .nil)))))))))))
  · exact .cons (.lst (.cons (.nums (.head _)) (.cons .int .nil))) (.cons .cell0 (.cons .cell0 .nil))
  · refine ⟨⟨locA_nd, fun x av hm => ?_⟩, S₅.ld.sub ?_ ?_⟩
    · refine S₅.lo.at_ x av ?_
      simp only [locA, List.mem_cons, Prod.mk.injEq, reduceCtorEq, and_false, false_or, List.not_mem_nil, or_false, or_self] at hm
      obtain ⟨rfl, e⟩ := hm
      cases e
      exact .tail _ (.head _)
    · intro p hp
      simp only [List.mem_cons, List.cons_append, List.nil_append, List.not_mem_nil, or_false] at hp ⊢
      rcases hp with rfl | rfl | rfl | rfl | rfl <;> simp [tabOf]
    · have nd := S₅.ld.nd
      simp only [List.map_cons, List.map_nil, List.nodup_cons, List.mem_cons, List.not_mem_nil, or_false, not_or, List.cons_append, List.nil_append] at nd ⊢
      simp_all [eq_comm]
end
end Mine
namespace Mine
theorem law_parts : lawF.body = (lawF.body.take 1) ++ ((lawF.body.drop 1 |>.take 10) ++ (lawF.body.drop 11)) := by kernel_rfl
noncomputable def stS (x : Bool) (ns : List Int) : St := mkX x none none none (recB 1 1 1 0 false [] []) ns 1 1 1 1 0 false [] [] 1 10 10 10 10
section
variable {ns : List Int} (hp : ∀ x ∈ ns, 0 ≤ x) (hl : ns.length ≤ 63)
include hp hl
theorem setup : (run mc 300).xs Flaw (sDeck ns) (lawF.body.drop 1 |>.take 10) (nextK (tidy0 fun s => ∃ x, s = stS x ns) fun _ _ => False) := by
  have h := of1 (st0 (ns := ns) (Q := fun s => ∃ x, s = stS x ns) (j := 0) (hb := 0) (hs := 0) (hp := 0) (hh := 0) (w := 0) (sp := 0) (hd := false) (he := []) (hl := []) (cur := 0) (p1 := 0) (p2 := 0) (p3 := 0) (p4 := 0) (rb := 0) (rs := 0) (rp := 0) (rh := 0) (rd := false) (re := []) (rl := []))
    ⟨dok hp hl (by decide) (by decide), fun _ => ⟨rfl, rfl, rfl, true, rfl⟩, fun _ => ⟨rfl, rfl, rfl, false, rfl⟩⟩
  exact sDeck_is h
theorem rng {x : Bool} : ∀ s, s = stS x ns → (run mc 300).ev Flaw s rgA (fun v s' => ∃ N : Nat, v = .int N ∧ N ≤ 10 ∧ inv x ns 0 s') := by
  intro s e
  unfold stS at e
  subst e
  refine of1 rgA_is ⟨dok hp hl (by decide) (by decide), fun r h0 h1 => ⟨(1 + r).toNat, ?_, by omega, ?_⟩⟩
  · rw [show (((1 + r).toNat : Nat) : Int) = 1 + r by omega]
  · exact ⟨⟨1, 1, 1, 0, false, [], [], 1, 10, 10, 10, 10⟩, rfl, Nat.le_refl _, Nat.le_refl _⟩
end
theorem nth_ok {ns : List Int} {x : Bool} : ∀ t i s, inv x ns t s → storeI Flaw s ("nth" : Str) (.int i) (fun s => inv x ns t ⟨fgLs ["nth"] s.ls, s.os⟩) := by
  rintro t i s ⟨v, e, q⟩
  subst e
  exact of1 (nth_is (kk := inv x ns t)) ⟨v, rfl, q⟩
theorem abs_pos {ns : List Int} : ∀ x ∈ ns.map absI, 0 ≤ x := by
  intro x hx
  obtain ⟨y, _, rfl⟩ := List.mem_map.mp hx
  unfold absI
  split <;> omega
section
variable {c : Cx} {A : Around} {L : Addr} {cl : List (Str × Addr)} {g h : Heap} {m : Str → Option Value} {c1 c2 sa cA PA fa : Addr} {cn : Str} {cs : Scope} {vs : List Value} {ns : List Int}
theorem law_W (f : LF c A (envX cn cs L fa (.ref cA) cl) L cl g c1 c2) (C : CodeHd g cA PA) (S : ST c g L m (locsA lawF.nm [("script", .ref sa)]) h [(c2, .cell none), (c1, .cell none), (PA, .raw (tabObj #[]))]) (hg : g.IsList sa vs.toArray) (hI : IntsAre vs ns) (hz : ns.length ≤ 63) :
    W c A (execs lawF.body (envX cn cs L fa (.ref cA) cl)) h (fun fl h' => fl = .ret (.bool true) ∧ ∃ Q, AtL c g L PA [] (envX cn cs L fa (.ref cA) cl).qual c1 c2 Q h') := by
  rw [law_parts]
  have hp : ∀ x ∈ ns.map absI, 0 ≤ x := abs_pos
  have hl : (ns.map absI).length ≤ 63 := by rw [List.length_map]; exact hz
  refine execs_app (deck_ok (qual := (envX cn cs L fa (.ref cA) cl).qual) f S hg hI hz) fun h₁ a₁ => ?_
  refine execs_app ((a₁.xs f fun s e => by subst e; exact setup hp hl).mono fun fl h' q => ⟨q.1, q.2.tidy0⟩) fun h₂ a₂ => ?_
  obtain ⟨s, ⟨x, e⟩, a₃⟩ := a₂.one
  subst e
  exact (loop_ok f (rng hp hl) nth_ok (fun t E h ht a => turn_ok f C hp hl ht a) a₃).mono fun fl h' ⟨q, t, a⟩ => ⟨q, _, a⟩
end
end Mine
namespace Mine
theorem law_at : fnT 1085 = some lawF := by
  have h : (fnT 1085).isSome = true := by kernel_rfl
  unfold lawF
  cases e : fnT 1085 with
  | none => rw [e] at h; cases h
  | some f => rfl
noncomputable def codeOf (K : Frag) (fa : Addr) : Value := match K.lookup fa with
  | some ⟨_, _, .func fd, _⟩ => fd.code
  | _ => .none
theorem law_code_is (P : Params) : codeOf (Mine.hd.heap_1 P) 1085 = .ref 1084 := by kernel_rfl
theorem law_hd (P : Params) : codeHdIn (Mine.hd.heap_1 P) 1084 1082 = true := by kernel_rfl
theorem law_notabs (P : Params) : noTabs (Mine.hd.heap_1 P) = true := by kernel_rfl
theorem law_name (P : Params) : nsIn (Mine.hd.heap_1 P) mainGlobals ("law" : Str) = some (some (.ref 1085)) := by kernel_rfl
theorem law_bind {sa : Addr} : bindI lawF [.glob sa] = some [(("script" : Str), .glob sa)] := by kernel_rfl
theorem law_cells : ((lawF.nm.filter fun p => p.2 == .cell).map (·.1)).reverse = [(("here" : Str)), "own_editor"] := by kernel_rfl
theorem two_of {l : List (Str × Addr)} {x y : Str} (h : l.map (·.1) = [x, y]) : ∃ a b, l = [(x, a), (y, b)] := by
  cases l with
  | nil => cases h
  | cons p l =>
    cases l with
    | nil => cases h
    | cons q l =>
      cases l with
      | nil =>
        obtain ⟨x', a⟩ := p
        obtain ⟨y', b⟩ := q
        cases h
        exact ⟨a, b, rfl⟩
      | cons r l => cases h
theorem law_end {c : Cx} {g h' : Heap} {L : Addr} {qual : Str} {c1 c2 : Addr} {Q : St → Prop} (a : AtL c g L 1082 [] qual c1 c2 Q h') : (∃ m, Fr g L h' m) ∧ GrownAt 1082 h' := by
  obtain ⟨tb, τ₀, t, ω, m', s, C, z, ⟨ls, l, k1, k2, S'⟩, qq⟩ := a
  obtain ⟨o', g1, g2⟩ := S'.at (d := 1082) (List.mem_append_right _ (List.mem_append_right _ (.head _)))
  exact ⟨⟨_, S'.ld.fr⟩, tabOf tb, by rw [g1]; exact congrArg some g2⟩
noncomputable abbrev lawTabs : List (Addr × Addr) := [(1084, 1082)]
theorem law_top {w : World} {prog : Program} {s₁ : Shared} {sa : Addr} {vs : List Value} {ns : List Int} {p : Program} {loose : List Str} {mean : ExcName → Option Value} {mg mb : Str → Option Value} {R : Result → Shared → Prop}
    (KX : (Mine.hd.heap_1 w.params).In s₁.heap) (hT : TabsAt lawTabs s₁.heap) (T : Top p loose mean mg mb s₁.heap) (sm : ∃ o, s₁.heap.get? sysModules = some o) (hg : s₁.heap.IsList sa vs.toArray) (hI : IntsAre vs ns) (hz : ns.length ≤ 63)
    (q : ∀ h' tk L m, Fr (ghostOf s₁.heap lawTabs) L h' m → GrownAll lawTabs h' → R (.ok (.ret (.bool true))) ⟨h', s₁.gens, s₁.drawn, tk, s₁.os⟩) :
    codeAny (model prog w) callerA (.call (.ref 1085) ⟨[.ref sa], []⟩) R s₁ := by
  refine fnK_use (fnT_ok w.params 1085 lawF law_at) fun name qual params scope dV kV doc pm cdv ct an Dv G => ?_
  obtain ⟨oc, od, osl, ho⟩ := G.ho
  have hc := law_code_is w.params
  unfold codeOf at hc
  rw [ho] at hc
  have hc : cdv = .ref 1084 := hc
  subst hc
  have gX := ghost_K hT KX (law_notabs _)
  have gT := ghost_top hT T
  have gC : CodeHd (ghostOf s₁.heap lawTabs) 1084 1082 := (ghost_code hT).1
  have gL := ghost_list hT hg
  obtain ⟨osm, sm⟩ := sm
  obtain ⟨binds, bA, hb, hbA, hF, nd, hloc⟩ := bind_ok (P := lamP) (c := ⟨prog, w, s₁.gens, s₁.drawn, s₁.os⟩) (ω := ⟨[], []⟩) G KX (us := [.glob sa]) (vs := [.ref sa]) (.cons ⟨_, .glob, rfl⟩ .nil) law_bind
  have hnm := G.nn
  have knd := cells_nd hnm
  have keys : ∀ n, (cellsFrom n scope.names []).map (·.1) = [(("here" : Str)), "own_editor"] := fun n => by rw [cellsFrom_keys, ← G.nm, List.map_nil, List.append_nil, law_cells]
  refine codeAny_call_function (fd := fnOf name qual params lawF.body scope dV kV doc pm an (.ref 1084) ct) (by decide) (KX _ _ ho) rfl G.co G.ge rfl (codeRec_of KX G.cd) (hb s₁.toks _ _ _ _ ?_)
  refine wpAny_newFunctionEnv_cells G.kd (fun x hx => ?_) fun env' he s' x => ?_
  · exact (hloc x hx).imp_right fun e => ⟨e, cells_some hnm e⟩
  subst he
  refine ⟨T.nolimit.keeps x.toInCall.keep, codeAny_func ?_⟩
  obtain ⟨h₁, tk, rfl, _⟩ := x.done
  have hk₁ := x.toInCall.keep
  obtain ⟨cells, NC, Y⟩ := Cl.news (h₀ := s₁.heap) (Nat.le_refl _) fun n c hm => ⟨x.cell n c (lookup_of_mem (knd _) hm), x.above n c hm⟩
  have F : Fr s₁.heap s₁.heap.objs.size h₁ (bindL (envX qual scope s₁.heap.objs.size 1085 (.ref 1084) (cellsFrom (s₁.heap.objs.size + 1) scope.names [])).kindOf binds fun _ => none) := ⟨x.toInCall.ns, x.toInCall.keep, x.toInCall.fresh⟩
  have gF := ghost_fr hT F
  have gN := ghost_news hT F NC
  have kd : ∀ y, (envX qual scope s₁.heap.objs.size 1085 (.ref 1084) (cellsFrom (s₁.heap.objs.size + 1) scope.names [])).kindOf y = scope.names.lookup y := fun y => rfl
  have LC : Led ⟨prog, w, s₁.gens, s₁.drawn, s₁.os⟩ (cellL (cellsFrom (s₁.heap.objs.size + 1) scope.names []) bA) cells := led_cells hbA nd Y fun p hp => by
    show scope.names.lookup p.1 ≠ some .local
    rw [cells_kind hnm (a := p.2) hp]; decide
  obtain ⟨c1, c2⟩ := cellsFrom_at (lo := s₁.heap.objs.size) scope.names (s₁.heap.objs.size + 1) [] (Nat.lt_succ_self _) .nil (fun p hp => nomatch hp)
  have lt : 1082 < s₁.heap.objs.size := Heap.lt_size (hT _ (.head _)).2
  have fo : FO (Mine.hd.heap_1 w.params) ⟨prog, w, s₁.gens, s₁.drawn, s₁.os⟩ (callerA.deeper (envX qual scope s₁.heap.objs.size 1085 (.ref 1084) (cellsFrom (s₁.heap.objs.size + 1) scope.names []))) (envX qual scope s₁.heap.objs.size 1085 (.ref 1084) (cellsFrom (s₁.heap.objs.size + 1) scope.names []))
      lawF.nm s₁.heap.objs.size (cellsFrom (s₁.heap.objs.size + 1) scope.names []) (ghostOf s₁.heap lawTabs) 60 :=
    ⟨gX, ⟨_, _, _, _, _, gT⟩, ⟨callerA, _, [], ghost_below hT, Around.frames_deeper rfl⟩, ⟨_, _, _, _, rfl, G.nm.symm, G.kd⟩, by rw [G.nm]; exact hnm, knd _, Nat.le_of_ble_eq_true rfl, Nat.le_of_ble_eq_true rfl, rfl, ⟨osm, ghost_ne sm (by decide)⟩⟩
  have hl := loc_locsA kd hnm hbA nd
  have kk := keys (s₁.heap.objs.size + 1)
  have hcat : ∀ {cc : Cx} {l₁ l₂ : List (Addr × AObj)} {r₁ r₂ : List (Addr × Obj)}, Led cc l₁ r₁ → Led cc l₂ r₂ → Led cc (l₁ ++ l₂) (r₁ ++ r₂) := fun {cc l₁ l₂ r₁ r₂} h1 h2 => by
    induction h1 with
    | nil => exact h2
    | cons a _ ih => exact .cons a ih
  have main : wpAny (model prog w) (callerA.deeper (envX qual scope s₁.heap.objs.size 1085 (.ref 1084) (cellsFrom (s₁.heap.objs.size + 1) scope.names []))) (execs lawF.body (envX qual scope s₁.heap.objs.size 1085 (.ref 1084) (cellsFrom (s₁.heap.objs.size + 1) scope.names [])))
      (fun fl s' => R (.ok (.ret (match fl with | .ret v => v | _ => .none))) s') (fun _ _ => False) ⟨h₁, s₁.gens, s₁.drawn, tk, s₁.os⟩ := by
    revert fo c1 c2 LC hl gF kk F kd
    generalize cellsFrom (s₁.heap.objs.size + 1) scope.names [] = cs
    intro F gF kd LC c1 c2 fo hl kk
    obtain ⟨a2, a1, rfl⟩ := two_of kk
    cases hF with
    | cons u r =>
    cases r
    cases u
    have S : ∃ mm, ST ⟨prog, w, s₁.gens, s₁.drawn, s₁.os⟩ (ghostOf s₁.heap lawTabs) s₁.heap.objs.size mm (locsA lawF.nm [(("script" : Str), .ref sa)]) h₁ [(a2, .cell none), (a1, .cell none), (1082, .raw (tabObj #[]))] := by
      rw [G.nm]
      refine ⟨_, hl, gF, ?_, _, hcat (l₁ := [(a2, .cell none), (a1, .cell none)]) (l₂ := [(1082, .raw (tabObj #[]))]) LC (.cons rfl .nil), gN⟩
      have h2 := c2 _ (.head _)
      have h1 := c2 _ (.tail _ (.head _))
      simp only [List.map_cons, List.map_nil, List.nodup_cons, List.mem_cons, List.not_mem_nil, or_false, not_false_eq_true, List.nodup_nil, and_true, not_or] at c1 ⊢
      have h2 : s₁.heap.objs.size < a2 := h2
      have h1 : s₁.heap.objs.size < a1 := h1
      exact ⟨⟨c1, Nat.ne_of_gt (Nat.lt_trans lt h2)⟩, Nat.ne_of_gt (Nat.lt_trans lt h1)⟩
    obtain ⟨mm, S⟩ := S
    refine wpAny_mono (law_W (c1 := a1) (c2 := a2) ⟨fo, by kernel_rfl, by kernel_rfl⟩ gC S gL hI hz tk) (fun fl s' hs' => ?_) fun _ _ x => x.elim
    obtain ⟨h', tk', e, e', Q, at'⟩ := hs'
    subst e e'
    obtain ⟨⟨m', fr⟩, gr⟩ := law_end at'
    exact q h' tk' _ m' fr ⟨gr, trivial⟩
  exact wpAny_mono main (fun _ _ x => x) fun _ _ x => x.elim
end Mine
namespace Mine
theorem left_ok {as : List Addr} (e : ∀ P, as = (Mine.hd.heap_1 P).map (·.1)) : LeftO PySem.Challenge.rw_rg0142_01.prog qv qn (fun _ => true) (hook2 (kmHook Mine.hd.heap_1 as e [1082])).obs (hook2 (kmHook Mine.hd.heap_1 as e [1082])).val 14000 :=
  left_of_run (M := 7000) (boot_open top_opens rfl top_fence) size_is rfl fun w => run_quick (Y' := fun s => ((((Mine.hd.heap_1 w.params).map (·.1)).map (getT s), [1082].map (getT s)), (getT s sysModules).isSome)) (fun s => by show ((List.map s.abs.heap.get? as, List.map s.abs.heap.get? [1082]), (s.abs.heap.get? sysModules).isSome) = _; rw [e w.params, obs_eq, obs_eq, getT_eq]) (by kernel_rfl)
end Mine
theorem PySem.Challenge.cw_rg0142_01_holds : PySem.Challenge.rw_rg0142_01.Holds := by
  refine Mine.hd ⟨Mine.left_ok _, ?_⟩
  intro w s₀ s₁ mg mb G Y fa o pm cd doc dV kV ho hd hcd hD hmg hg args vals as hpre hlay hrd hwl hlo
  have KX := km_in_of Y.1
  have hT8 := km_tabs_of Y.1
  have sm := Y.2
  refine Ground.open G ?_
  intro T B D TE TW
  have hfa : mg ("law" : Str) = some (.ref 1085) := mg_of KX T.g (Mine.law_name _)
  have e : some (Value.ref fa) = some (.ref 1085) := hmg.symm.trans hfa
  cases e
  have hT : TabsAt Mine.lawTabs s₁.heap := List.forall_mem_cons.mpr ⟨⟨codeHd_of_K KX (Mine.law_hd _), hT8 1082 (by simp)⟩, fun _ h => nomatch h⟩
  clear hd hD hcd ho hmg
  wrow_args hpre hlay hrd hwl hlo
  rename_i ns _ _ _ _ _ _ _ sa vs _ hL _ _ _ hI _ hcond _
  have hz : ns.length ≤ 63 := by omega
  refine enter_call ?_
  refine kn_post hT (fun _ _ => rfl) ?_
  refine Mine.law_top KX hT T sm hL hI hz fun h' tk L m F Gr => ⟨?_, Gr⟩
  exact goodW_bool (m := m) F hg (fun _ => rfl) (by first | kernel_rfl | exact postW_of (by wrow_shape) (by wtm_val) (by str_meet; first | done | w_fin))
