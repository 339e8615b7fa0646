import PyProof.Rows.All
import Wide.All
import OpenK.AllK
import Wide.FinOn
import PySem.Challenge.RW_np0072_01
open PySem PySem.W PyProof.Rows PySem.Calls PySem.Spec
set_option Elab.async false
set_option maxRecDepth 100000
set_option maxHeartbeats 0
set_option linter.unusedVariables false
set_option compiler.extract_closed false
namespace Mine
section
local macro_rules | `(tactic| o_head $_H) => `(tactic| assumption)
theorem fr : PySem.Challenge.rw_np0072_01.row.Holds → PySem.Challenge.rw_np0072_01.row.Holds := by
  intro h
  k_head
end

/-- the frame and the ledger, its addresses apart -/
structure Lg (h₀ : Heap) (L : Addr) (h : Heap) (m : Str → Option Value) (news : List (Addr × Obj)) : Prop where
  fr : Fr h₀ L h m
  nw : News h₀ L h news
  nd : (news.map (·.1)).Nodup

structure Gr (K : Frag) (p : Program) (loose : List Str) (mean : ExcName → Option Value) (mg mb : Str → Option Value) (A₀ : Around) (base : Heap) (outer : List Env) (h₀ : Heap) : Prop where
  b : Below A₀ base outer h₀
  x : K.In h₀
  t : Top p loose mean mg mb h₀

structure Ar (A : Around) (env : Env) (outer : List Env) (dn un : Nat) : Prop where
  hd : A.handled = none
  fr : A.frames = some (env :: outer)
  dp : A.depth + dn < recursionLimit
  us : A.units + un < cLine
theorem Ar.le {A : Around} {env : Env} {outer : List Env} {dn un dn' un' : Nat} (a : Ar A env outer dn un) (h1 : dn' ≤ dn) (h2 : un' ≤ un) : Ar A env outer dn' un' :=
  ⟨a.hd, a.fr, Nat.lt_of_le_of_lt (Nat.add_le_add_left h1 _) a.dp, Nat.lt_of_le_of_lt (Nat.add_le_add_left h2 _) a.us⟩

/-- the entry of one address turned in its place -/
inductive Put (D : Addr) (o o' : Obj) : List (Addr × Obj) → List (Addr × Obj) → Prop
  | head {r} : Put D o o' ((D, o) :: r) ((D, o') :: r)
  | tail {p r r'} : Put D o o' r r' → Put D o o' (p :: r) (p :: r')
  | app {l r r'} : Put D o o' r r' → Put D o o' (l ++ r) (l ++ r')
theorem Put.split {D : Addr} {o o' : Obj} {l l' : List (Addr × Obj)} (U : Put D o o' l l') : ∃ pre post, l = pre ++ (D, o) :: post ∧ l' = pre ++ (D, o') :: post := by
  induction U with
  | head => exact ⟨[], _, rfl, rfl⟩
  | tail _ ih => obtain ⟨a, b, rfl, rfl⟩ := ih; exact ⟨_ :: a, b, rfl, rfl⟩
  | app _ ih => rename_i l r r' _; obtain ⟨a, b, rfl, rfl⟩ := ih; exact ⟨l ++ a, b, by simp, by simp⟩
/-- .. whatever it is turned to -/
inductive PutF (D : Addr) (o : Obj) : List (Addr × Obj) → (Obj → List (Addr × Obj)) → Prop
  | head {r} : PutF D o ((D, o) :: r) fun o' => (D, o') :: r
  | tail {p r f} : PutF D o r f → PutF D o (p :: r) fun o' => p :: f o'
  | app {l r f} : PutF D o r f → PutF D o (l ++ r) fun o' => l ++ f o'
theorem PutF.put {D : Addr} {o : Obj} {l : List (Addr × Obj)} {f : Obj → List (Addr × Obj)} (U : PutF D o l f) (o' : Obj) : Put D o o' l (f o') := by
  induction U with
  | head => exact .head
  | tail _ ih => exact .tail ih
  | app _ ih => exact .app ih
/-- one entry taken out -/
inductive Pull (D : Addr) (o : Obj) : List (Addr × Obj) → List (Addr × Obj) → Prop
  | head {r} : Pull D o ((D, o) :: r) r
  | tail {p r r'} : Pull D o r r' → Pull D o (p :: r) (p :: r')
  | app {l r r'} : Pull D o r r' → Pull D o (l ++ r) (l ++ r')
theorem Pull.perm {D : Addr} {o : Obj} {l r : List (Addr × Obj)} (U : Pull D o l r) : l.Perm ((D, o) :: r) := by
  induction U with
  | head => exact .refl _
  | tail _ ih => exact (ih.cons _).trans (.swap _ _ _)
  | app _ ih => exact (ih.append_left _).trans List.perm_middle
theorem Pull.mem {D : Addr} {o : Obj} {l r : List (Addr × Obj)} (U : Pull D o l r) : (D, o) ∈ l := U.perm.mem_iff.mpr (.head _)
theorem Put.mem {D : Addr} {o o' : Obj} {l l' : List (Addr × Obj)} (U : Put D o o' l l') : (D, o) ∈ l := by
  obtain ⟨a, b, rfl, rfl⟩ := U.split; simp
theorem Put.keys {D : Addr} {o o' : Obj} {l l' : List (Addr × Obj)} (U : Put D o o' l l') : l'.map (·.1) = l.map (·.1) := by
  obtain ⟨a, b, rfl, rfl⟩ := U.split; simp
theorem Put.off {D : Addr} {o o' : Obj} {pre post : List (Addr × Obj)} (nd : ((pre ++ (D, o) :: post).map (·.1)).Nodup) : (∀ p ∈ pre, p.1 ≠ D) ∧ ∀ p ∈ post, p.1 ≠ D := by
  rw [List.map_append, List.map_cons] at nd
  have h := List.nodup_append.mp nd
  refine ⟨fun p hp e => h.2.2 _ (List.mem_map_of_mem hp) _ (List.Mem.head _) (by rw [e]), fun p hp e => ?_⟩
  exact (List.nodup_cons.mp h.2.1).1 (List.mem_map.mpr ⟨p, hp, e⟩)

section
variable {h₀ h h' : Heap} {L D : Addr} {m m' : Str → Option Value} {news news' : List (Addr × Obj)} {o o' : Obj}
theorem Lg.put (G : Lg h₀ L h m news) (U : Put D o o' news news') (hs : Heap.SameBut D h h') (ho : h'.get? D = some o') : Lg h₀ L h' m news' := by
  have k := U.keys
  obtain ⟨pre, post, rfl, rfl⟩ := U.split
  obtain ⟨a, b⟩ := Put.off (o' := o') G.nd
  have z := G.nw (D, o) (by simp)
  exact ⟨G.fr.change hs z.2.1 z.2.2, news_set G.nw a b hs ho, by rw [k]; exact G.nd⟩
theorem Lg.push (G : Lg h₀ L h m news) (o : Obj) (hf : o.isFreed = false := by rfl) : Lg h₀ L (h.push o) m ((h.objs.size, o) :: news) :=
  ⟨G.fr.push o, G.nw.push G.fr o hf, by
    rw [List.map_cons, List.nodup_cons]
    refine ⟨fun hm => ?_, G.nd⟩
    obtain ⟨p, hp, e⟩ := List.mem_map.mp hm
    exact Nat.lt_irrefl _ (e ▸ Heap.lt_size (G.nw p hp).1)⟩
theorem Lg.get {a : Addr} (G : Lg h₀ L h m news) (hm : (a, o) ∈ news) : h.get? a = some o := (G.nw _ hm).1
theorem Lg.lt {a : Addr} (G : Lg h₀ L h m news) (hm : (a, o) ∈ news) : a < h.objs.size := Heap.lt_size (G.get hm)
theorem Lg.of (F : Fr h₀ L h m) (N : News h₀ L h news) (nd : (news.map (·.1)).Nodup) : Lg h₀ L h m news := ⟨F, N, nd⟩
theorem Lg.keeps (G : Lg h₀ L h m news) (k : ∀ b o, h.get? b = some o → h'.get? b = some o) : Lg h₀ L h' m news := ⟨G.fr.keeps k, G.nw.grown k, G.nd⟩
/-- fewer entries -/
theorem Lg.sub (G : Lg h₀ L h m news) (s : ∀ p ∈ news', p ∈ news) (nd : (news'.map (·.1)).Nodup) : Lg h₀ L h m news' := ⟨G.fr, fun p hp => G.nw p (s p hp), nd⟩
theorem Lg.tail {p : Addr × Obj} (G : Lg h₀ L h m (p :: news)) : Lg h₀ L h m news := G.sub (fun _ hp => .tail _ hp) (List.nodup_cons.mp (List.map_cons ▸ G.nd)).2
theorem Lg.pull (G : Lg h₀ L h m news) (U : Pull D o news news') : Lg h₀ L h m ((D, o) :: news') := G.sub (fun p hp => U.perm.mem_iff.mpr hp) ((U.perm.map _).nodup_iff.mp G.nd)
theorem Lg.perm (G : Lg h₀ L h m news) (q : news'.Perm news) : Lg h₀ L h m news' := G.sub (fun p hp => q.mem_iff.mp hp) ((q.map _).nodup_iff.mpr G.nd)
end

/-- an instance, of the ledger or of the text's own -/
inductive InsIn (K : Frag) (news : List (Addr × Obj)) (x C : Addr) (es : List DictEntry) : Prop
  | news {dx n} (h1 : (x, instObj C dx) ∈ news) (h2 : (dx, dictOf es n) ∈ news)
  | own {dx n} (h1 : K.lookup x = some ⟨.ref C, some dx, .plain, #[]⟩) (h2 : K.lookup dx = some (dictOf es n))
theorem InsIn.mono {K : Frag} {news news' : List (Addr × Obj)} {x C : Addr} {es : List DictEntry} (i : InsIn K news x C es) (s : ∀ p ∈ news, p ∈ news') : InsIn K news' x C es := by
  cases i with
  | news h1 h2 => exact .news (s _ h1) (s _ h2)
  | own h1 h2 => exact .own h1 h2
theorem InsIn.inst {K : Frag} {news : List (Addr × Obj)} {x C : Addr} {es : List DictEntry} {h₀ h : Heap} {L : Addr} {m : Str → Option Value} (i : InsIn K news x C es) (X : K.In h₀) (G : Lg h₀ L h m news) : ∃ ox n, InstAt h x ox C (some (dictOf es n)) := by
  cases i with
  | news h1 h2 => exact ⟨_, _, InstAt.of_news G.nw h1 h2⟩
  | own h1 h2 => exact ⟨_, _, InstAt.of_K (X.keeps G.fr.keep) h1 h2⟩

/-- the closed facts of reading an own attribute -/
structure AOk (K : Frag) (C : Addr) (name : Str) : Prop where
  g : plainGet K C name = true
  d : hasDictIn K C = true
  a : ∃ attr, findIn K (.ref C) name = some attr ∧ noGet K attr = true
/-- .. and of calling a method -/
structure MOk (K : Frag) (C : Addr) (name : Str) (f : Addr) : Prop where
  g : plainGet K C name = true
  a : findIn K (.ref C) name = some (some (.ref f))
  t : isFn K (.ref f) = true
  k : keepIn K (.ref f) = true

section
variable {prog : Program} {w : World} {A : Around} {E : Value → Shared → Prop} {K : Frag} {p : Program} {loose : List Str} {mean : ExcName → Option Value} {mg mb : Str → Option Value} {A₀ : Around} {base h₀ h : Heap} {outer : List Env} {L a : Addr} {m : Str → Option Value} {news news'' : List (Addr × Obj)} {f : Obj → List (Addr × Obj)} {D : Addr}
  {g : Array GenState} {d : Drawn} {t : Nat} {os : OsState} {cn : Str} {cs : Scope} {ccd : Value} {cl : List (Str × Addr)} {env : Env}

noncomputable def SeqQ (M : Model) (A : Around) (rest : List Stmt) (env : Env) (Q : Flow → Shared → Prop) (E : Value → Shared → Prop) (f : Flow) (s : Shared) : Prop := match f with
  | .next => wpAny M A (execs rest env) Q E s
  | f => Q f s
theorem r_seq {M : Model} {s : Shared} {st : Stmt} {rest : List Stmt} {Q : Flow → Shared → Prop} (k : wpAny M A (exec st env) (SeqQ M A rest env Q E) E s) : wpAny M A (execs (st :: rest) env) Q E s :=
  wpAny_execs_cons (wpAny_mono k (fun f _ k => by cases f <;> exact k) fun _ _ e => e)
theorem r_next {M : Model} {s : Shared} {rest : List Stmt} {Q : Flow → Shared → Prop} (k : wpAny M A (execs rest env) Q E s) : SeqQ M A rest env Q E .next s := k
theorem r_retq {M : Model} {s : Shared} {rest : List Stmt} {Q : Flow → Shared → Prop} {v : Value} (k : Q (.ret v) s) : SeqQ M A rest env Q E (.ret v) s := k
theorem r_contq {M : Model} {s : Shared} {rest : List Stmt} {Q : Flow → Shared → Prop} (k : Q .cont s) : SeqQ M A rest env Q E .cont s := k

noncomputable def IfQ (M : Model) (A : Around) (body orelse : List Stmt) (env : Env) (Q : Flow → Shared → Prop) (E : Value → Shared → Prop) (b : Bool) (s : Shared) : Prop := match b with
  | true => wpAny M A (execs body env) Q E s
  | false => wpAny M A (execs orelse env) Q E s
theorem r_if {M : Model} {s : Shared} {test body orelse pos} {Q : Flow → Shared → Prop} (k : wpAny M A (isTrue test env (eval test env)) (IfQ M A body orelse env Q E) E s) : wpAny M A (exec (.If test body orelse pos) env) Q E s :=
  wpAny_If (wpAny_mono k (fun b _ k => by cases b <;> exact k) fun _ _ e => e)
theorem r_if_t {M : Model} {s : Shared} {body orelse} {Q : Flow → Shared → Prop} {b : Bool} (e : b = true) (k : wpAny M A (execs body env) Q E s) : IfQ M A body orelse env Q E b s := by subst e; exact k
theorem r_if_f {M : Model} {s : Shared} {body orelse} {Q : Flow → Shared → Prop} {b : Bool} (e : b = false) (k : wpAny M A (execs orelse env) Q E s) : IfQ M A body orelse env Q E b s := by subst e; exact k
theorem r_if_s {M : Model} {s : Shared} {body orelse} {Q : Flow → Shared → Prop} {b : Bool} (k1 : b = true → wpAny M A (execs body env) Q E s) (k2 : b = false → wpAny M A (execs orelse env) Q E s) : IfQ M A body orelse env Q E b s := by
  cases b with
  | true => exact k1 rfl
  | false => exact k2 rfl

noncomputable def AndQ (P R : Shared → Prop) (b : Bool) (s : Shared) : Prop := match b with
  | true => P s
  | false => R s
theorem r_q_t {s : Shared} {P R : Shared → Prop} {b : Bool} (e : b = true) (k : P s) : AndQ P R b s := by subst e; exact k
theorem r_q_f {s : Shared} {P R : Shared → Prop} {b : Bool} (e : b = false) (k : R s) : AndQ P R b s := by subst e; exact k
theorem r_and {M : Model} {s : Shared} {x rest pos whole} {Q : Bool → Shared → Prop} (k : wpAny M A (isTrue x env (eval x env)) (AndQ (wpAny M A (isTrue (.BoolOp .And rest pos) env whole) Q E) (Q false)) E s) : wpAny M A (isTrue (.BoolOp .And (x :: rest) pos) env whole) Q E s :=
  isTrue_and (wpAny_mono k (fun b _ k => by cases b <;> exact k) fun _ _ e => e)
theorem r_or {M : Model} {s : Shared} {x rest pos whole} {Q : Bool → Shared → Prop} (k : wpAny M A (isTrue x env (eval x env)) (AndQ (Q true) (wpAny M A (isTrue (.BoolOp .Or rest pos) env whole) Q E)) E s) : wpAny M A (isTrue (.BoolOp .Or (x :: rest) pos) env whole) Q E s :=
  isTrue_or (wpAny_mono k (fun b _ k => by cases b <;> exact k) fun _ _ e => e)

-- names
theorem r_nameL {x : Str} {pos : Pos} {v : Value} {Q : Value → Shared → Prop} (G : Lg h₀ L h m news) (hv : m x = some v)
    (hk : cs.kind = .function) (hx : (envX cn cs L a ccd cl).kindOf x = some .local) (hd : (x == ("__debug__" : Str)) = false) (k : Q v ⟨h, g, d, t, os⟩) :
    wpAny (model prog w) A (eval (.Name x pos) (envX cn cs L a ccd cl)) Q E ⟨h, g, d, t, os⟩ := nameX_L (s := ⟨h, g, d, t, os⟩) G.fr hv k hk hx hd
theorem r_nameC {x : Str} {pos : Pos} {v : Value} {c : Addr} {o : Obj} {Q : Value → Shared → Prop} (G : Lg h₀ L h m news) (hc : cl.lookup x = some c) (hm : (c, o) ∈ news) (ho : o.data = .cell (some v))
    (hk : cs.kind = .function) (hx : (envX cn cs L a ccd cl).kindOf x = some .cell) (hd : (x == ("__debug__" : Str)) = false) (k : Q v ⟨h, g, d, t, os⟩) :
    wpAny (model prog w) A (eval (.Name x pos) (envX cn cs L a ccd cl)) Q E ⟨h, g, d, t, os⟩ := nameX_C (s := ⟨h, g, d, t, os⟩) G.nw hc hm ho k hk hx hd
theorem r_nameK {x : Str} {pos : Pos} {v : Value} {Q : Value → Shared → Prop} (G : Lg h₀ L h m news) (X : Gr K p loose mean mg mb A₀ base outer h₀) (e : nsIn K mainGlobals x = some (some v))
    (hk : cs.kind = .function) (hx : (envX cn cs L a ccd cl).kindOf x = some .globalImplicit) (hd : (x == ("__debug__" : Str)) = false) (k : Q v ⟨h, g, d, t, os⟩) :
    wpAny (model prog w) A (eval (.Name x pos) (envX cn cs L a ccd cl)) Q E ⟨h, g, d, t, os⟩ := nameX_K (s := ⟨h, g, d, t, os⟩) G.fr X.x (topRead_of X.t) e k hk hx hd
theorem r_nameB {x : Str} {pos : Pos} {v : Value} {Q : Value → Shared → Prop} (G : Lg h₀ L h m news) (X : Gr K p loose mean mg mb A₀ base outer h₀) (e : nsIn K mainGlobals x = some none) (hb : bootBuiltins x = some v) (hn : x ≠ "__name__")
    (hk : cs.kind = .function) (hx : (envX cn cs L a ccd cl).kindOf x = some .globalImplicit) (hd : (x == ("__debug__" : Str)) = false) (k : Q v ⟨h, g, d, t, os⟩) :
    wpAny (model prog w) A (eval (.Name x pos) (envX cn cs L a ccd cl)) Q E ⟨h, g, d, t, os⟩ := nameX_B (s := ⟨h, g, d, t, os⟩) G.fr X.x (topRead_of X.t) e hb hn k hk hx hd
theorem r_store {x : Str} {v : Value} {Q : Unit → Shared → Prop} (G : Lg h₀ L h m news)
    (hk : cs.kind = .function) (hx : (envX cn cs L a ccd cl).kindOf x = some .local)
    (k : ∀ h' t', Lg h₀ L h' (fun y => if y = x then some v else m y) news → Q () ⟨h', g, d, t', os⟩) :
    wpAny (model prog w) A (storeName (envX cn cs L a ccd cl) x v) Q E ⟨h, g, d, t, os⟩ := storeX_L (s := ⟨h, g, d, t, os⟩) G.fr G.nw (fun h' F N => k h' _ ⟨F, N, G.nd⟩) hk hx
-- attributes
theorem r_attr {x C : Addr} {es : List DictEntry} {name : Str} {v : Value} {expr : Bool} {Q : Value → Shared → Prop} (G : Lg h₀ L h m news) (X : Gr K p loose mean mg mb A₀ base outer h₀) (I : InsIn K news x C es) (ok : AOk K C name) (hl : getL name es = some (some v)) (hv : handedIn v = true)
    (k : ∀ t', Q v ⟨h, g, d, t', os⟩) : wpAny (model prog w) A (getAttr (.ref x) name expr) Q E ⟨h, g, d, t, os⟩ := by
  obtain ⟨ox, n, I⟩ := I.inst X.x G
  obtain ⟨attr, h1, h2⟩ := ok.a
  exact get_own (s := ⟨h, g, d, t, os⟩) G.fr X.x I ok.g ok.d h1 h2 hl hv (k _)
theorem r_meth {x C f : Addr} {es : List DictEntry} {name : Str} {pl : Sem Bool} {Q : Value × List Value → Shared → Prop} (G : Lg h₀ L h m news) (X : Gr K p loose mean mg mb A₀ base outer h₀) (I : InsIn K news x C es) (ok : MOk K C name f) (hl : getL name es = some none)
    (k : Q (.ref f, [.ref x]) ⟨h, g, d, t, os⟩) : wpAny (model prog w) A (getMethod (.ref x) name pl) Q E ⟨h, g, d, t, os⟩ := by
  obtain ⟨ox, n, I⟩ := I.inst X.x G
  exact method_inst (s := ⟨h, g, d, t, os⟩) G.fr X.x I ok.g ok.a ok.t hl k
theorem r_lmeth {D : Addr} {its : Array Value} {n : Nat} {name : Str} {id : String} {pl : Sem Bool} {Q : Value × List Value → Shared → Prop} (G : Lg h₀ L h m news) (hm : (D, listOf its n) ∈ news) (slot : Slot "list" name id) (hty : typeOf (.builtin id) = pure (.type "method_descriptor"))
    (k : Q (.builtin id, [.ref D]) ⟨h, g, d, t, os⟩) : wpAny (model prog w) A (getMethod (.ref D) name pl) Q E ⟨h, g, d, t, os⟩ := kl_method (s := ⟨h, g, d, t, os⟩) G.nw hm slot hty k

-- calls
theorem r_call {M : Model} {s : Shared} {f : Expr} {args : List Expr} {pos : Pos} {Q : Value → Shared → Prop} (k : wpAny M A (eval f env) (fun f s₁ => wpAny M A (callWith pos f [] (backTo pos (starEach args env)) []) Q E s₁) E s)
    (he : eval (.Call f args [] pos) env = (do callWith pos (← eval f env) [] (backTo pos (starEach args env)) (backToKw pos (keywordEach [] env)))) : wpAny M A (eval (.Call f args [] pos) env) Q E s := Call_ k he
theorem r_cwB {pos : Pos} {id : String} {first : List Value} {e : Expr} {rest : List Expr} {s : Shared} {Q : Value → Shared → Prop}
    (he : starEach (e :: rest) env = (false, eval e env) :: starEach rest env) (hp : (backTo pos (starEach rest env)).any (·.1) = false)
    (k : wpAny (model prog w) A (spliced (backTo pos (starEach (e :: rest) env))) (fun vs s₁ => wpAny (model prog w) A (call (.builtin id) (first ++ vs)) Q E s₁) E s) :
    wpAny (model prog w) A (callWith pos (.builtin id) first (backTo pos (starEach (e :: rest) env)) []) Q E s := callWith_method1 k he hp
theorem r_cwB0 {pos : Pos} {id : String} {first : List Value} {s : Shared} {Q : Value → Shared → Prop} (k : wpAny (model prog w) A (call (.builtin id) first) Q E s) :
    wpAny (model prog w) A (callWith pos (.builtin id) first (backTo pos (starEach [] env)) []) Q E s := callWith_method0 k
theorem r_cwK {pos : Pos} {f : Value} {first : List Value} {e : Expr} {rest : List Expr} {s : Shared} {Q : Value → Shared → Prop} (X : Gr K p loose mean mg mb A₀ base outer h₀) (hk : keepIn K f = true)
    (he : starEach (e :: rest) env = (false, eval e env) :: starEach rest env) (hp : (backTo pos (starEach rest env)).any (·.1) = false)
    (k : wpAny (model prog w) A (spliced (backTo pos (starEach (e :: rest) env))) (fun vs s₁ => K.In s₁.heap ∧ wpAny (model prog w) A (call f (first ++ vs)) Q E s₁) E s) :
    wpAny (model prog w) A (callWith pos f first (backTo pos (starEach (e :: rest) env)) []) Q E s := callWith_K X.x hk k he hp
theorem r_cwK0 {pos : Pos} {f : Value} {first : List Value} {Q : Value → Shared → Prop} (G : Lg h₀ L h m news) (X : Gr K p loose mean mg mb A₀ base outer h₀) (hk : keepIn K f = true)
    (k : wpAny (model prog w) A (call f (first ++ [])) Q E ⟨h, g, d, t, os⟩) : wpAny (model prog w) A (callWith pos f first (backTo pos (starEach [] env)) []) Q E ⟨h, g, d, t, os⟩ :=
  callWith_K0 (s := ⟨h, g, d, t, os⟩) (X.x.keeps G.fr.keep) hk k
theorem r_kin {P : Prop} (G : Lg h₀ L h m news) (X : Gr K p loose mean mg mb A₀ base outer h₀) (k : P) : K.In (⟨h, g, d, t, os⟩ : Shared).heap ∧ P := ⟨X.x.keeps G.fr.keep, k⟩

theorem r_nil_app {M : Model} {s : Shared} {f : Value} {vs : List Value} {Q : Value → Shared → Prop} (k : wpAny M A (call f vs) Q E s) : wpAny M A (call f ([] ++ vs)) Q E s := k
theorem r_one_app {M : Model} {s : Shared} {f x : Value} {vs : List Value} {Q : Value → Shared → Prop} (k : wpAny M A (call f (x :: vs)) Q E s) : wpAny M A (call f ([x] ++ vs)) Q E s := k

-- lists
theorem r_newList {vs : List Value} {Q : Value → Shared → Prop} (G : Lg h₀ L h m news) (hz : vs.length ≤ sizeLine)
    (k : ∀ l h', Lg h₀ L h' m ((l, listOf vs.toArray 0) :: news) → Q (.ref l) ⟨h', g, d, t, os⟩) : wpAny (model prog w) A (newList vs) Q E ⟨h, g, d, t, os⟩ :=
  wpAny_newObj_type (k _ _ (G.push _)) (by show vs.toArray.size ≤ sizeLine; rw [List.size_toArray]; exact hz)
theorem r_newTuple {vs : List Value} {Q : Value → Shared → Prop} (G : Lg h₀ L h m news) (hz : vs.length ≤ sizeLine)
    (k : ∀ l h', Lg h₀ L h' m ((l, { cls := .type "tuple", data := .seq vs.toArray }) :: news) → Q (.ref l) ⟨h', g, d, t, os⟩) : wpAny (model prog w) A (newTuple vs) Q E ⟨h, g, d, t, os⟩ :=
  wpAny_newObj_type (k _ _ (G.push _)) (by show vs.toArray.size ≤ sizeLine; rw [List.size_toArray]; exact hz)
theorem r_append {D : Addr} {vs : List Value} {n : Nat} {x : Value} {Q : Value → Shared → Prop} (G : Lg h₀ L h m news) (U : PutF D (listOf vs.toArray n) news f) (hz : vs.length ≤ sizeLine)
    (k : ∀ n' h', Lg h₀ L h' m (f (listOf (vs ++ [x]).toArray n')) → Q .none ⟨h', g, d, t, os⟩) : wpAny (model prog w) A (call (.builtin "list.append") [.ref D, x]) Q E ⟨h, g, d, t, os⟩ :=
  append_at (s := ⟨h, g, d, t, os⟩) (G.get (U.put default).mem) (fun h' hs ho => k (n + 1) h' (G.put (U.put _) hs (by rw [ho]; simp [W.listOf]))) (by rw [List.size_toArray]; exact hz)
theorem Lg.turn {vs vs' : List Value} {n : Nat} (f₀ : Array Value → Array Value) (G : Lg h₀ L h m news) (he : f₀ vs.toArray = vs'.toArray) (U : PutF D (listOf vs.toArray n) news f) :
    ∃ n', Lg h₀ L (h.update D (Obj.mapSeq f₀)) m (f (listOf vs'.toArray n')) := by
  have q := PySem.IsL.update (G.get (U.put default).mem) f₀
  rw [he] at q
  exact ⟨_, G.put (U.put _) (Heap.SameBut.update ..) q⟩
theorem r_pop {D : Addr} {vs : List Value} {n : Nat} {y : Value} {Q : Value → Shared → Prop} (G : Lg h₀ L h m news) (U : PutF D (listOf (vs ++ [y]).toArray n) news f) (hz : vs.length + 1 ≤ sizeLine)
    (k : ∀ n' h', Lg h₀ L h' m (f (listOf vs.toArray n')) → Q y ⟨h', g, d, t, os⟩) : wpAny (model prog w) A (call (.builtin "list.pop") [.ref D]) Q E ⟨h, g, d, t, os⟩ := by
  have z := G.get (U.put default).mem
  have hk : (vs ++ [y]).toArray.size - 1 = vs.length := by simp
  have hy : (vs ++ [y]).toArray[(vs ++ [y]).toArray.size - 1]? = some y := by rw [hk]; simp
  have e : (fun xs : Array Value => xs.eraseIdxIfInBounds ((vs ++ [y]).toArray.size - 1)) (vs ++ [y]).toArray = vs.toArray := by
    show (vs ++ [y]).toArray.eraseIdxIfInBounds ((vs ++ [y]).toArray.size - 1) = vs.toArray
    rw [hk, kl_erase, List.append_nil]
  obtain ⟨n', G'⟩ := G.turn (fun xs : Array Value => xs.eraseIdxIfInBounds ((vs ++ [y]).toArray.size - 1)) e U
  exact call_meets PySem.F.slot_list_pop ⟨_, z, rfl⟩ PySem.F.entry_list_pop (PySem.F.args_list_pop_1 _) (PySem.MeetsSeq.list_pop_last D _ n y hy (by simpa using hz)) ⟨z, k n' _ G'⟩
theorem r_pop0 {D : Addr} {vs : List Value} {n : Nat} {y : Value} {u : Tok} {Q : Value → Shared → Prop} (G : Lg h₀ L h m news) (U : PutF D (listOf (y :: vs).toArray n) news f) (hz : vs.length + 1 ≤ sizeLine)
    (k : ∀ n' h', Lg h₀ L h' m (f (listOf vs.toArray n')) → Q y ⟨h', g, d, t, os⟩) : wpAny (model prog w) A (call (.builtin "list.pop") [.ref D, .int 0 u]) Q E ⟨h, g, d, t, os⟩ := by
  have z := G.get (U.put default).mem
  have e : (fun xs : Array Value => xs.eraseIdxIfInBounds 0) (y :: vs).toArray = vs.toArray := by
    exact kl_erase [] vs y
  obtain ⟨n', G'⟩ := G.turn (fun xs : Array Value => xs.eraseIdxIfInBounds 0) e U
  have hk : seqIndex? 0 (y :: vs).toArray.size = some 0 := by
    unfold seqIndex?
    simp
  exact call_meets PySem.F.slot_list_pop ⟨_, z, rfl⟩ PySem.F.entry_list_pop (PySem.F.args_list_pop_2 _ _) (PySem.MeetsSeq.list_pop_at D _ n 0 u 0 y (by decide) hk (by simp) (by simpa using hz)) ⟨z, k n' _ G'⟩
theorem r_extend {D b : Addr} {vs ys : List Value} {n n2 : Nat} {Q : Value → Shared → Prop} (G : Lg h₀ L h m news) (hb : (b, listOf ys.toArray n2) ∈ news) (U : PutF D (listOf vs.toArray n) news f) (hz : vs.length + ys.length ≤ sizeLine)
    (k : ∀ n' h', Lg h₀ L h' m (f (listOf (vs ++ ys).toArray n')) → Q .none ⟨h', g, d, t, os⟩) : wpAny (model prog w) A (call (.builtin "list.extend") [.ref D, .ref b]) Q E ⟨h, g, d, t, os⟩ := by
  have z := G.get (U.put default).mem
  have e : (fun x : Array Value => x ++ ys.toArray) vs.toArray = (vs ++ ys).toArray := by simp
  obtain ⟨n', G'⟩ := G.turn (fun x : Array Value => x ++ ys.toArray) e U
  exact call_meets PySem.F.slot_list_extend ⟨_, z, rfl⟩ PySem.F.entry_list_extend (PySem.F.args_list_extend_2 _ _) (PySem.AutoSeq1.list_extend_list_list_0 D _ n b _ n2 (extend_door (by simpa using hz)) (by simp; omega) (by simp; omega)) ⟨z, G.get hb, k n' _ G'⟩
theorem r_len {D : Addr} {vs : List Value} {n : Nat} {Q : Value → Shared → Prop} (G : Lg h₀ L h m news) (hm : (D, listOf vs.toArray n) ∈ news) (hz : vs.length ≤ sizeLine) (k : ∀ u t', Q (.int vs.length u) ⟨h, g, d, t', os⟩) :
    wpAny (model prog w) A (call (.builtin "len") [.ref D]) Q E ⟨h, g, d, t, os⟩ := by
  rw [sizeLine_eq] at hz
  exact len_list (s := ⟨h, g, d, t, os⟩) ⟨_, G.get hm, rfl, n, rfl⟩ (by simp; omega) (by simpa using k _ _)
theorem r_item {D : Addr} {vs : List Value} {n : Nat} {i : Int} {u : Tok} {v : Value} {value slice : Expr} {Q : Value → Shared → Prop} (G : Lg h₀ L h m news) (hm : (D, listOf vs.toArray n) ∈ news) (h0 : 0 ≤ i) (h1 : i < 2 ^ 63) (hv : vs[i.toNat]? = some v)
    (hs : subscripted slice false (.ref D) (.int i u) = operate [.ref D, .int i u] (getItem (.ref D) (.int i u))) (k : Q v ⟨h, g, d, t, os⟩) : wpAny (model prog w) A (subscriptTail value slice (.ref D) (.int i u)) Q E ⟨h, g, d, t, os⟩ :=
  have hl : Heap.IsList h D vs.toArray := ⟨_, G.get hm, rfl, n, rfl⟩
  tail_any (s := ⟨h, g, d, t, os⟩) hl.typeIs slot_list_getitem.lookup (wpAny_getItem_list (s := ⟨h, g, d, t, os⟩) hl h0 h1 (by simpa using hv) k) hs
theorem r_itemT {D : Addr} {vs : List Value} {n : Nat} {i : Int} {u : Tok} {j : Nat} {v : Value} {value slice : Expr} {Q : Value → Shared → Prop} (G : Lg h₀ L h m news) (hm : (D, ({ cls := .type "tuple", data := .seq vs.toArray n } : Obj)) ∈ news) (h0 : -(2 ^ 63) ≤ i) (h1 : i < 2 ^ 63) (hj : seqIndex? i vs.length = some j) (hv : vs[j]? = some v)
    (hs : subscripted slice false (.ref D) (.int i u) = operate [.ref D, .int i u] (getItem (.ref D) (.int i u))) (k : Q v ⟨h, g, d, t, os⟩) : wpAny (model prog w) A (subscriptTail value slice (.ref D) (.int i u)) Q E ⟨h, g, d, t, os⟩ :=
  item_tupleT (s := ⟨h, g, d, t, os⟩) ⟨_, G.get hm, rfl, n, rfl⟩ h0 h1 hj hv k hs

-- isinstance
structure IOk (K : Frag) (D : Addr) : Prop where
  g : plainGet K D "__class__" = true
  d : hasDictIn K D = true
  a : findIn K (.ref D) "__class__" = some (some (.builtin "object.__class__"))
  n : specialIn K (.builtin "object.__class__") "__get__" = some (some (.builtin "getset_descriptor.__get__"))
  t : takesIn K (.builtin "object.__class__") = some true
  m : mroIn K D (.type "object") = some true
theorem r_isi {x C : Addr} {c : Value} {es : List DictEntry} {b : Bool} {Q : Value → Shared → Prop} (G : Lg h₀ L h m news) (X : Gr K p loose mean mg mb A₀ base outer h₀) (I : InsIn K news x C es) (ok : IOk K C) (e : kitOne K (.ref C) c = some b)
    (k : ∀ t', Q (.bool b) ⟨h, g, d, t', os⟩) : wpAny (model prog w) A (call (.builtin "isinstance") [.ref x, c]) Q E ⟨h, g, d, t, os⟩ := by
  obtain ⟨ox, n, I⟩ := I.inst X.x G
  exact kia_one (s := ⟨h, g, d, t, os⟩) (kitx_own ok.g ok.d ok.a ok.n ok.t ok.m) (X.x.keeps G.fr.keep) I e (by intro q; cases q) k
theorem r_isiInt {i : Int} {u : Tok} {c : Value} {b : Bool} {Q : Value → Shared → Prop} (G : Lg h₀ L h m news) (X : Gr K p loose mean mg mb A₀ base outer h₀) (e : kitOne K (.type "int") c = some b)
    (k : ∀ t', Q (.bool b) ⟨h, g, d, t', os⟩) : wpAny (model prog w) A (call (.builtin "isinstance") [.int i u, c]) Q E ⟨h, g, d, t, os⟩ :=
  kia_one (s := ⟨h, g, d, t, os⟩) kitx_int (X.x.keeps G.fr.keep) trivial e (by intro q; cases q) k

-- is
theorem r_isSame {x : Addr} {Q : Value → Shared → Prop} {s : Shared} (k : Q (.bool true) s) : wpAny (model prog w) A (compareOp .Is (.ref x) (.ref x)) Q E s := wpAny_is_ref_self k
theorem r_isOff {x y : Addr} {ox oy : Obj} {Q : Value → Shared → Prop} (hx : h.get? x = some ox) (hy : h.get? y = some oy) (hxy : x ≠ y) (hb : ox.cls ≠ .type "tuple") (k : Q (.bool false) ⟨h, g, d, t, os⟩) :
    wpAny (model prog w) A (compareOp .Is (.ref x) (.ref y)) Q E ⟨h, g, d, t, os⟩ := kto_is (s := ⟨h, g, d, t, os⟩) hx hy hxy hb k

theorem r_isCls {x y C C' : Addr} {es es' : List DictEntry} {Q : Value → Shared → Prop} (G : Lg h₀ L h m news) (X : Gr K p loose mean mg mb A₀ base outer h₀) (I : InsIn K news x C es) (J : InsIn K news y C' es') (hc : C ≠ C') (k : Q (.bool false) ⟨h, g, d, t, os⟩) :
    wpAny (model prog w) A (compareOp .Is (.ref x) (.ref y)) Q E ⟨h, g, d, t, os⟩ := by
  obtain ⟨ox, n, I⟩ := I.inst X.x G
  obtain ⟨oy, n', J⟩ := J.inst X.x G
  refine r_isOff I.at_ J.at_ (fun e => ?_) (by rw [I.cls]; intro q; cases q) k
  subst e
  have h1 := I.at_
  rw [J.at_] at h1
  cases h1
  have h2 := I.cls
  rw [J.cls] at h2
  cases h2
  exact hc rfl
theorem r_isNe {x y C C' : Addr} {es es' : List DictEntry} {Q : Value → Shared → Prop} (G : Lg h₀ L h m news) (X : Gr K p loose mean mg mb A₀ base outer h₀) (I : InsIn K news x C es) (J : InsIn K news y C' es') (hc : x ≠ y) (k : Q (.bool false) ⟨h, g, d, t, os⟩) :
    wpAny (model prog w) A (compareOp .Is (.ref x) (.ref y)) Q E ⟨h, g, d, t, os⟩ := by
  obtain ⟨ox, n, I⟩ := I.inst X.x G
  obtain ⟨oy, n', J⟩ := J.inst X.x G
  exact r_isOff I.at_ J.at_ hc (by rw [I.cls]; intro q; cases q) k
theorem r_isnotCls {x y C C' : Addr} {es es' : List DictEntry} {Q : Value → Shared → Prop} (G : Lg h₀ L h m news) (X : Gr K p loose mean mg mb A₀ base outer h₀) (I : InsIn K news x C es) (J : InsIn K news y C' es') (hc : C ≠ C') (k : Q (.bool true) ⟨h, g, d, t, os⟩) :
    wpAny (model prog w) A (compareOp .IsNot (.ref x) (.ref y)) Q E ⟨h, g, d, t, os⟩ := by
  obtain ⟨ox, n, I⟩ := I.inst X.x G
  obtain ⟨oy, n', J⟩ := J.inst X.x G
  refine kto_isnot (s := ⟨h, g, d, t, os⟩) I.at_ J.at_ (fun e => ?_) (by rw [I.cls]; intro q; cases q) k
  subst e
  have h1 := I.at_
  rw [J.at_] at h1
  cases h1
  have h2 := I.cls
  rw [J.cls] at h2
  cases h2
  exact hc rfl
theorem r_ifexp {M : Model} {s : Shared} {test body orelse pos} {Q : Value → Shared → Prop} (k : wpAny M A (isTrue test env (eval test env)) (AndQ (wpAny M A (eval body env) Q E) (wpAny M A (eval orelse env) Q E)) E s) : wpAny M A (eval (.IfExp test body orelse pos) env) Q E s :=
  IfExp_ (wpAny_mono k (fun b _ k => by cases b <;> exact k) fun _ _ e => e)
theorem r_band {M : Model} {s : Shared} {e₁ e₂ rest pos} {Q : Value → Shared → Prop} (k : wpAny M A (eval e₁ env) (fun v s₁ => wpAny M A (truthy v) (AndQ (wpAny M A (eval (.BoolOp .And (e₂ :: rest) pos) env) Q E) (Q v)) E s₁) E s) : wpAny M A (eval (.BoolOp .And (e₁ :: e₂ :: rest) pos) env) Q E s :=
  BoolOp_and (wpAny_mono k (fun v _ k => wpAny_mono k (fun b _ k => by cases b <;> exact k) fun _ _ e => e) fun _ _ e => e)
theorem r_bor {M : Model} {s : Shared} {e₁ e₂ rest pos} {Q : Value → Shared → Prop} (k : wpAny M A (eval e₁ env) (fun v s₁ => wpAny M A (truthy v) (AndQ (Q v) (wpAny M A (eval (.BoolOp .Or (e₂ :: rest) pos) env) Q E)) E s₁) E s) : wpAny M A (eval (.BoolOp .Or (e₁ :: e₂ :: rest) pos) env) Q E s :=
  BoolOp_or (wpAny_mono k (fun v _ k => wpAny_mono k (fun b _ k => by cases b <;> exact k) fun _ _ e => e) fun _ _ e => e)
theorem r_q_s {s : Shared} {P R : Shared → Prop} {b : Bool} (k1 : b = true → P s) (k2 : b = false → R s) : AndQ P R b s := by
  cases b with
  | true => exact k1 rfl
  | false => exact k2 rfl

-- the stores into an instance
structure SOk (K : Frag) (C : Addr) (name : Str) : Prop where
  s : findIn K (.ref C) "__setattr__" = some (some (.builtin "object.__setattr__"))
  p : plainOver K C = true
  t : takerIn K C name = some none
  d : hasDictIn K C = true
theorem r_setattr {x C dx : Addr} {es es' : List DictEntry} {n n' : Nat} {name : Str} {v : Value} {Q : Unit → Shared → Prop} (G : Lg h₀ L h m news) (X : Gr K p loose mean mg mb A₀ base outer h₀) (hx : (x, instObj C dx) ∈ news) (ok : SOk K C name) (hl : (getL name es).isSome = true)
    (e : (putL name (PyData.keyHash w.params name) (.str name (t + 1)) v es, putN name es n) = (es', n')) (U : Put dx (dictOf es n) (dictOf es' n') news news'') (hz : es'.length ≤ 1000)
    (k : ∀ h' t', Lg h₀ L h' m news'' → Q () ⟨h', g, d, t', os⟩) : wpAny (model prog w) A (setAttr (.ref x) name v) Q E ⟨h, g, d, t, os⟩ := by
  obtain ⟨e1, e2⟩ := Prod.mk.inj e
  have I := InstAt.of_news (sl := #[]) G.nw hx U.mem
  have U' := U
  obtain ⟨pre, post, rfl, rfl⟩ := U.split
  obtain ⟨a, b⟩ := Put.off (o' := dictOf es' n') G.nd
  refine set_plain (s := ⟨h, g, d, t, os⟩) (X.x.keeps G.fr.keep) I ok.s (osa_dict (s := ⟨h, g, d, t + 1, os⟩) G.fr G.nw (X.x.keeps G.fr.keep) I rfl ok.p ok.t ok.d hl a b (by rw [putName_dict, e1, e2]) rfl hz fun h' F' N' => k h' _ ⟨F', N', ?_⟩)
  rw [U'.keys]; exact G.nd

/-- what a call does: from the ledger 'news' it hands back a value and another ledger -/
noncomputable def Sp (prog : Program) (w : World) (K : Frag) (p : Program) (loose : List Str) (mean : ExcName → Option Value) (mg mb : Str → Option Value) (f : Value) (vs : List Value) (dn un : Nat) (news : List (Addr × Obj)) (post : Value → List (Addr × Obj) → Prop) : Prop :=
  ∀ (A : Around) (env : Env) (outer : List Env) (A₀ : Around) (base h₀ h : Heap) (L : Addr) (m : Str → Option Value) (g : Array GenState) (d : Drawn) (t : Nat) (os : OsState) (Q E : Value → Shared → Prop),
    Ar A env outer dn un → env.frame = some L → env.scope.kind = .function → Gr K p loose mean mg mb A₀ base outer h₀ → Lg h₀ L h m news →
    (∀ v news' h' t', post v news' → Lg h₀ L h' m news' → Q v ⟨h', g, d, t', os⟩) → wpAny (model prog w) A (call f vs) Q E ⟨h, g, d, t, os⟩
theorem Sp.use {f : Value} {vs : List Value} {dn un dn' un' : Nat} {post : Value → List (Addr × Obj) → Prop} {Q : Value → Shared → Prop} (S : Sp prog w K p loose mean mg mb f vs dn un news post) (a : Ar A env outer dn' un') (h1 : dn ≤ dn') (h2 : un ≤ un')
    (hf : env.frame = some L) (hk : env.scope.kind = .function) (X : Gr K p loose mean mg mb A₀ base outer h₀) (G : Lg h₀ L h m news) (k : ∀ v news' h' t', post v news' → Lg h₀ L h' m news' → Q v ⟨h', g, d, t', os⟩) :
    wpAny (model prog w) A (call f vs) Q E ⟨h, g, d, t, os⟩ := S _ _ _ _ _ _ _ _ _ _ _ _ _ _ _ (a.le h1 h2) hf hk X G k
theorem Sp.mono {f : Value} {vs : List Value} {dn un : Nat} {post post' : Value → List (Addr × Obj) → Prop} (S : Sp prog w K p loose mean mg mb f vs dn un news post) (k : ∀ v n', post v n' → post' v n') : Sp prog w K p loose mean mg mb f vs dn un news post' :=
  fun _ _ _ _ _ _ _ _ _ _ _ _ _ _ _ a hf hk X G q => S _ _ _ _ _ _ _ _ _ _ _ _ _ _ _ a hf hk X G fun v n' h' t' z => q v n' h' t' (k v n' z)

/-- the end of a def's body -/
noncomputable def Back (h₀ : Heap) (L : Addr) (g : Array GenState) (d : Drawn) (os : OsState) (post : Value → List (Addr × Obj) → Prop) (fl : Flow) (s : Shared) : Prop :=
  ∃ h t m news, s = ⟨h, g, d, t, os⟩ ∧ Lg h₀ L h m news ∧ post (match fl with | .ret v => v | _ => .none) news
theorem r_back {post : Value → List (Addr × Obj) → Prop} {v : Value} (G : Lg h₀ L h m news) (k : post v news) : Back h₀ L g d os post (.ret v) ⟨h, g, d, t, os⟩ := ⟨h, t, m, news, rfl, G, k⟩
theorem r_back0 {post : Value → List (Addr × Obj) → Prop} (G : Lg h₀ L h m news) (k : post .none news) : Back h₀ L g d os post .next ⟨h, g, d, t, os⟩ := ⟨h, t, m, news, rfl, G, k⟩
theorem Lg.nodup_keep {h₁ : Heap} {L' : Addr} {m' : Str → Option Value} (G : Lg h₁ L' h m' news) (F : Fr h₀ L h m) (N : News h₀ L h news) : Lg h₀ L h m news := ⟨F, N, G.nd⟩

theorem Sp.code {f : Value} {vs : List Value} {dn un : Nat} {post : Value → List (Addr × Obj) → Prop}
    (k : ∀ (A : Around) (env : Env) (outer : List Env) (A₀ : Around) (base h₀ h : Heap) (L : Addr) (m : Str → Option Value) (g : Array GenState) (d : Drawn) (t : Nat) (os : OsState) (R : Result → Shared → Prop),
      Ar A env outer dn un → env.frame = some L → env.scope.kind = .function → Gr K p loose mean mg mb A₀ base outer h₀ → Lg h₀ L h m news →
      (∀ v news' h' t', post v news' → Lg h₀ L h' m news' → R (.ok (.ret v)) ⟨h', g, d, t', os⟩) → codeAny (model prog w) A (.call f ⟨vs, []⟩) R ⟨h, g, d, t, os⟩) : Sp prog w K p loose mean mg mb f vs dn un news post :=
  fun A env outer A₀ base h₀ h L m g d t os Q E a hf hk X G q => wpAny_call (k A env outer A₀ base h₀ h L m g d t os _ a hf hk X G q)

theorem code_of {f : Addr} {vs : List Value} {dn un : Nat} {post : Value → List (Addr × Obj) → Prop} {name qual : Str} {params : Arguments} {body : List Stmt} {scope : Scope} {dV kV doc pm cdv ct oc : Value} {an od : Option Addr} {osl : Array (Option Value)} {binds : List (Str × Value)} {R : Result → Shared → Prop}
    (ho : K.lookup f = some ⟨oc, od, .func (fnOf name qual params body scope dV kV doc pm an cdv ct), osl⟩) (hcd : codeIn K cdv qual = true)
    (hbind : ∀ s : Shared, K.In s.heap → BindsTo s (fnOf name qual params body scope dV kV doc pm an cdv ct) ⟨vs, []⟩ binds) (hloc : ∀ y ∈ binds, scope.names.lookup y.1 = some .local)
    (hco : scope.isCoroutine = false) (hgen : scope.isGenerator = false) (hk : scope.kind = .function) (hcell : ∀ x ∈ scope.names, x.2 ≠ .cell)
    (a : Ar A env outer (dn + 1) (un + 3)) (hf : env.frame = some L) (hke : env.scope.kind = .function) (X : Gr K p loose mean mg mb A₀ base outer h₀) (G : Lg h₀ L h m news)
    (k : ∀ (A : Around) (outer : List Env) (A₀ : Around) (base h₀ h : Heap) (L : Addr) (t : Nat),
      Ar A (envX qual scope L f cdv []) outer dn un → Gr K p loose mean mg mb A₀ base outer h₀ → Lg h₀ L h (fun y => binds.reverse.lookup y) news →
      wpAny (model prog w) A (execs body (envX qual scope L f cdv [])) (Back h₀ L g d os post) (fun _ _ => False) ⟨h, g, d, t, os⟩)
    (q : ∀ v news' h' t', post v news' → Lg h₀ L h' m news' → R (.ok (.ret v)) ⟨h', g, d, t', os⟩) :
    codeAny (model prog w) A (.call (.ref f) ⟨vs, []⟩) R ⟨h, g, d, t, os⟩ := by
  refine code_def (s := ⟨h, g, d, t, os⟩) X.b G.fr X.x G.nw X.t a.fr hf hke ho hcd (by have := a.dp; omega) (hbind _ (X.x.keeps G.fr.keep)) hloc (fun g' L' h₁ FG F' N' B' X' T' => ?_) hco hgen hk hcell
  refine wpAny_mono (k (A.deeper (envOf qual scope L' f cdv)) (env :: outer) A base g' h₁ L' _ ⟨a.hd, ?_, ?_, ?_⟩ ⟨B', X', T'⟩ ⟨F', N', G.nd⟩) (fun fl s' z => ?_) fun _ _ z => z.elim
  · show A.frames.map _ = _
    rw [a.fr]; rfl
  · show A.depth + 1 + dn < _
    have := a.dp; omega
  · show A.units + 3 + un < _
    have := a.us; omega
  · obtain ⟨h', t', m', news', rfl, G', z⟩ := z
    exact leaveK_ (s' := ⟨h', g, d, t', os⟩) G'.fr G'.nw fun F N => q _ _ _ _ z ⟨F, N, G'.nd⟩

theorem Sp.def {f : Addr} {vs : List Value} {dn un : Nat} {post : Value → List (Addr × Obj) → Prop} {name qual : Str} {params : Arguments} {body : List Stmt} {scope : Scope} {dV kV doc pm cdv ct oc : Value} {an od : Option Addr} {osl : Array (Option Value)} {binds : List (Str × Value)}
    (ho : K.lookup f = some ⟨oc, od, .func (fnOf name qual params body scope dV kV doc pm an cdv ct), osl⟩) (hcd : codeIn K cdv qual = true)
    (hbind : ∀ s : Shared, K.In s.heap → BindsTo s (fnOf name qual params body scope dV kV doc pm an cdv ct) ⟨vs, []⟩ binds) (hloc : ∀ y ∈ binds, scope.names.lookup y.1 = some .local)
    (hco : scope.isCoroutine = false) (hgen : scope.isGenerator = false) (hk : scope.kind = .function) (hcell : ∀ x ∈ scope.names, x.2 ≠ .cell)
    (k : ∀ (A : Around) (outer : List Env) (A₀ : Around) (base h₀ h : Heap) (L : Addr) (g : Array GenState) (d : Drawn) (t : Nat) (os : OsState),
      Ar A (envX qual scope L f cdv []) outer dn un → Gr K p loose mean mg mb A₀ base outer h₀ → Lg h₀ L h (fun y => binds.reverse.lookup y) news →
      wpAny (model prog w) A (execs body (envX qual scope L f cdv [])) (Back h₀ L g d os post) (fun _ _ => False) ⟨h, g, d, t, os⟩) :
    Sp prog w K p loose mean mg mb (.ref f) vs (dn + 1) (un + 3) news post :=
  Sp.code fun _ _ _ _ _ _ _ _ _ g d _ os _ a hf hke X G q => code_of ho hcd hbind hloc hco hgen hk hcell a hf hke X G (fun A outer A₀ base h₀ h L t => k A outer A₀ base h₀ h L g d t os) q

/-- an instance of an own class: its __init__ fills the empty dict -/
theorem Sp.new {C fI : Addr} {vs : List Value} {dn un : Nat} {post : Value → List (Addr × Obj) → Prop} {name qual : Str} {params : Arguments} {body : List Stmt} {scope : Scope} {dV kV doc pm cdv ct oc : Value} {an od : Option Addr} {osl : Array (Option Value)} {binds : Addr → List (Str × Value)}
    (hm : makesIn K C = true) (hi : findIn K (.ref C) "__init__" = some (some (.ref fI))) (hfI : typeIn K (.ref fI) = some (.type "function"))
    (ho : K.lookup fI = some ⟨oc, od, .func (fnOf name qual params body scope dV kV doc pm an cdv ct), osl⟩) (hcd : codeIn K cdv qual = true)
    (hbind : ∀ (x : Addr) (s : Shared), K.In s.heap → BindsTo s (fnOf name qual params body scope dV kV doc pm an cdv ct) ⟨.ref x :: vs, []⟩ (binds x)) (hloc : ∀ x, ∀ y ∈ binds x, scope.names.lookup y.1 = some .local)
    (hco : scope.isCoroutine = false) (hgen : scope.isGenerator = false) (hk : scope.kind = .function) (hcell : ∀ x ∈ scope.names, x.2 ≠ .cell)
    (k : ∀ (x dx : Addr) (A : Around) (outer : List Env) (A₀ : Around) (base h₀ h : Heap) (L : Addr) (g : Array GenState) (d : Drawn) (t : Nat) (os : OsState), (∀ p ∈ news, p.1 < x) →
      Ar A (envX qual scope L fI cdv []) outer dn un → Gr K p loose mean mg mb A₀ base outer h₀ → Lg h₀ L h (fun y => (binds x).reverse.lookup y) ((x, instObj C dx) :: (dx, emptyDict) :: news) →
      wpAny (model prog w) A (execs body (envX qual scope L fI cdv [])) (Back h₀ L g d os (fun r news' => r = .none ∧ post (.ref x) news')) (fun _ _ => False) ⟨h, g, d, t, os⟩) :
    Sp prog w K p loose mean mg mb (.ref C) vs (dn + 2) (un + 4) news post := by
  refine Sp.code fun A env outer A₀ base h₀ h L m g d t os R a hf hke X G q => ?_
  have G₁ := (G.push emptyDict).push (instObj C h.objs.size)
  rw [Heap.size_push] at G₁
  refine make_core (rest := vs) (kw := []) (makes_of (X.x.keeps G.fr.keep) hm) (looks_findIn (X.x.keeps G.fr.keep) hi) (fun self => bind_fn (X.x.keeps G.fr.keep) self hfI) (.inl rfl) ?_
  have hcr : (Code.builtin "type.__call__" ⟨.ref C :: vs, []⟩).weight = 1 := by
    rfl
  refine code_of ho hcd (hbind _) (hloc _) hco hgen hk hcell (A := A.under (.builtin "type.__call__" ⟨.ref C :: vs, []⟩)) ⟨a.hd, ?_, ?_, ?_⟩ hf hke X G₁ (fun A outer A₀ base h₀ h' L t => k _ _ A outer A₀ base h₀ h' L g d t os fun p hp => Nat.lt_succ_of_lt (Heap.lt_size (G.nw p hp).1)) fun v news' h' t' z G' => ?_
  · show pushEnvs (Code.envs (.builtin "type.__call__" ⟨.ref C :: vs, []⟩)) A.frames = _
    rw [a.fr]; rfl
  · show A.depth + _ + _ < _
    rw [hcr]
    have := a.dp; omega
  · show A.units + _ + _ < _
    have h1 : (Code.builtin "type.__call__" ⟨.ref C :: vs, []⟩).cUnits = 1 := rfl
    rw [h1]
    have := a.us; omega
  · obtain ⟨rfl, z⟩ := z
    exact ⟨rfl, q _ _ _ _ z G'⟩
end
section
variable {prog : Program} {w : World} {A : Around} {E : Value → Shared → Prop} {K : Frag} {p : Program} {loose : List Str} {mean : ExcName → Option Value} {mg mb : Str → Option Value} {A₀ : Around} {base h₀ h hh : Heap} {outer : List Env} {L a : Addr} {m : Str → Option Value} {news news'' : List (Addr × Obj)} {news' : List (Addr × Obj)} {D : Addr}
  {g : Array GenState} {d : Drawn} {t tt : Nat} {os : OsState} {cn : Str} {cs : Scope} {ccd : Value} {cl : List (Str × Addr)} {env : Env} {M : Model}

theorem r_int {i : Int} {kk pos} {Q : Value → Shared → Prop} (k : ∀ u t', Q (.int i u) ⟨h, g, d, t', os⟩) : wpAny M A (eval (.Constant (.int i) kk pos) env) Q E ⟨h, g, d, t, os⟩ := wpAny_Constant_int (s := ⟨h, g, d, t, os⟩) (k _ _)
theorem r_str {x : Str} {kk pos} {Q : Value → Shared → Prop} (k : ∀ u t', Q (.str x u) ⟨h, g, d, t', os⟩) : wpAny M A (eval (.Constant (.str x) kk pos) env) Q E ⟨h, g, d, t, os⟩ := Calls.Constant_str (s := ⟨h, g, d, t, os⟩) (k _ _)
theorem r_add {a b : Int} {u v : Tok} {Q : Value → Shared → Prop} (k : ∀ u t', Q (.int (a + b) u) ⟨h, g, d, t', os⟩) : wpAny (model prog w) A (binaryOp .Add (.int a u) (.int b v)) Q E ⟨h, g, d, t, os⟩ := add_int (s := ⟨h, g, d, t, os⟩) (k _ _)
theorem r_sub {a b : Int} {u v : Tok} {Q : Value → Shared → Prop} (k : ∀ u t', Q (.int (a - b) u) ⟨h, g, d, t', os⟩) : wpAny (model prog w) A (binaryOp .Sub (.int a u) (.int b v)) Q E ⟨h, g, d, t, os⟩ := sub_int (s := ⟨h, g, d, t, os⟩) (k _ _)
theorem r_mod {a b : Int} {u v : Tok} {Q : Value → Shared → Prop} (hb : 0 < b) (k : ∀ u t', Q (.int (a % b) u) ⟨h, g, d, t', os⟩) : wpAny (model prog w) A (binaryOp .Mod (.int a u) (.int b v)) Q E ⟨h, g, d, t, os⟩ :=
  mod_int (s := ⟨h, g, d, t, os⟩) (by omega) (by rw [Int.fmod_eq_emod_of_nonneg _ (by omega)]; exact k _ _)
theorem r_fdiv {a b : Int} {u v : Tok} {Q : Value → Shared → Prop} (hb : 0 < b) (hs : b < 1073741824) (k : ∀ u t', Q (.int (a / b) u) ⟨h, g, d, t', os⟩) : wpAny (model prog w) A (binaryOp .FloorDiv (.int a u) (.int b v)) Q E ⟨h, g, d, t, os⟩ :=
  floordiv_int (s := ⟨h, g, d, t, os⟩) (by omega) (by rw [Int.fdiv_eq_ediv_of_nonneg _ (by omega)]; exact k _ _) (Or.inl (PyProof.noPylong_small (by omega)))
theorem r_neg {a : Int} {u : Tok} {Q : Value → Shared → Prop} (k : ∀ u t', Q (.int (-a) u) ⟨h, g, d, t', os⟩) : wpAny (model prog w) A (unaryOp .USub (.int a u)) Q E ⟨h, g, d, t, os⟩ := neg_int (s := ⟨h, g, d, t, os⟩) (k _ _)

-- while
noncomputable def WhR (prog : Program) (w : World) (A : Around) (env : Env) (test : Expr) (body : List Stmt) (Q : Flow → Shared → Prop) (s : Shared) : Prop := WhlRest prog w A (fun _ _ => False) env test body [] Q 0 s
noncomputable def WhQ (prog : Program) (w : World) (A : Around) (env : Env) (test : Expr) (body : List Stmt) (Q : Flow → Shared → Prop) (f : Flow) (s : Shared) : Prop := match f with
  | .next => WhR prog w A env test body Q s
  | .cont => WhR prog w A env test body Q s
  | .brk => Q .next s
  | .ret v => Q (.ret v) s
theorem r_while {test body pos} {Q : Flow → Shared → Prop} {s : Shared} (k : WhR prog w A env test body Q s) : wpAny (model prog w) A (exec (.While test body [] pos) env) Q (fun _ _ => False) s := whl_start 0 k
theorem r_wturn {test body} {Q : Flow → Shared → Prop} {s : Shared}
    (k : wpAny (model prog w) A (isTrue test env (eval test env)) (AndQ (wpAny (model prog w) A (execs body env) (WhQ prog w A env test body Q) (fun _ _ => False)) (Q .next)) (fun _ _ => False) s) : WhR prog w A env test body Q s := by
  refine whl_turn (k := 0) (E := fun _ _ => False) (fun _ _ f => f.elim) (wpAny_mono k (fun b s₂ k => ?_) fun _ _ e => e)
  cases b with
  | true => exact .yes rfl (wpAny_mono k (fun f s₃ z => by cases f <;> exact z) fun _ _ e => e)
  | false => exact .no rfl (wpAny_execs_nil k)
theorem r_wnext {test body} {Q : Flow → Shared → Prop} {s : Shared} (k : WhR prog w A env test body Q s) : WhQ prog w A env test body Q .next s := k
theorem r_wret {test body} {Q : Flow → Shared → Prop} {s : Shared} {v : Value} (k : Q (.ret v) s) : WhQ prog w A env test body Q (.ret v) s := k

-- for
noncomputable def FoR (prog : Program) (w : World) (A : Around) (env : Env) (x : Str) (px : Pos) (body : List Stmt) (Q : Flow → Shared → Prop) (I : Addr) (s : Shared) : Prop :=
  codeAny (model prog w) A (.forLoop (.Name x px) (.ref I) body [] env) (fun r s' => match r with | .ok f => Q f s' | .error e => cameBackBy (model prog w) A env (fun _ _ => False) e s') s
noncomputable def FoQ (prog : Program) (w : World) (A : Around) (env : Env) (x : Str) (px : Pos) (body : List Stmt) (Q : Flow → Shared → Prop) (I : Addr) (f : Flow) (s : Shared) : Prop := match f with
  | .next => FoR prog w A env x px body Q I s
  | .cont => FoR prog w A env x px body Q I s
  | .brk => Q .next s
  | .ret v => Q (.ret v) s
theorem r_for {x px iter body pos} {Q : Flow → Shared → Prop} {s : Shared} (hs : ∀ x, foldedSetIterable iter env x = pure x)
    (k : wpAny (model prog w) A (eval iter env) (fun xv s₁ => wpAny (model prog w) A (pyIter xv) (fun it s₂ => ∃ I, it = .ref I ∧ FoR prog w A env x px body Q I s₂) (fun _ _ => False) s₁) (fun _ _ => False) s) :
    wpAny (model prog w) A (exec (.For (.Name x px) iter body [] pos) env) Q (fun _ _ => False) s :=
  wpAny_For (wpAny_mono k (fun xv s₁ k => wpAny_mono k (fun it s₂ k => by obtain ⟨I, rfl, k⟩ := k; exact k) fun _ _ e => e) fun _ _ e => e) hs
theorem r_fturn {x px body} {Q : Flow → Shared → Prop} {s : Shared} {I : Addr}
    (k : wpAny (model prog w) A (pyNext (.ref I)) (fun r s₁ => match r with
      | none => Q .next s₁
      | some v => wpAny (model prog w) A (storeName env x v) (fun _ s₂ => wpAny (model prog w) A (execs body env) (FoQ prog w A env x px body Q I) (fun _ _ => False) s₂) (fun _ _ => False) s₁) (fun _ _ => False) s) : FoR prog w A env x px body Q I s := by
  refine codeAny_of_tree ?_
  show wpAny _ A ((forTurn (.Name x px) (.ref I) body [] env).onRaise (fun x => do noteFrame x env; theTreesLotGoes x)) _ _ s
  refine wpAny_noted ?_
  simp only [forTurn]
  refine wpAny_bind (wpAny_standAt (wpAny_bind (wpAny_onRaise (wpAny_mono k (fun r s₁ h₁ => ?_) fun _ _ z => z.elim))))
  cases r with
  | none => exact wpAny_pure ⟨rfl, codeAny_block (wpAny_execs_nil h₁)⟩
  | some v =>
    refine wpAny_bind (wpAny_of_eq (show letOwnedTupleGo (.Name x px) (.ref I) v = pure () from rfl) ?_)
    refine wpAny_bind (wpAny_assign_Name (wpAny_mono h₁ (fun _ s₂ h₂ => wpAny_bind (wpAny_mono h₂ (fun f s₃ h₃ => ?_) fun _ _ z => z.elim)) fun _ _ z => z.elim))
    cases f with
    | next => exact wpAny_pure ⟨rfl, h₃⟩
    | cont => exact wpAny_pure ⟨rfl, h₃⟩
    | brk => exact wpAny_pure h₃
    | ret v => exact wpAny_pure h₃
theorem r_fnext {x px body} {Q : Flow → Shared → Prop} {s : Shared} {I : Addr} (k : FoR prog w A env x px body Q I s) : FoQ prog w A env x px body Q I .next s := k
theorem r_fret {x px body} {Q : Flow → Shared → Prop} {s : Shared} {I : Addr} {v : Value} (k : Q (.ret v) s) : FoQ prog w A env x px body Q I (.ret v) s := k
noncomputable abbrev rgIt (a n c : Int) : Obj := { cls := .type "range_iterator", data := .fields #[rawInt a, rawInt n, rawInt c] }
noncomputable abbrev rgObj (a b c : Int) (t u v : Tok) : Obj := { cls := .type "range", data := .fields #[.int a t, .int b u, .int c v] }
theorem r_rangeIter {r : Addr} {a b c : Int} {t₁ t₂ t₃ : Tok} {Q : Value → Shared → Prop} (G : Lg h₀ L h m news) (hr : (r, rgObj a b c t₁ t₂ t₃) ∈ news) (hsm : Builtin.Range.small a b c = true)
    (k : ∀ I h', Lg h₀ L h' m ((I, rgIt a (Builtin.Range.rangeSize a b c) c) :: news) → Q (.ref I) ⟨h', g, d, t, os⟩) : wpAny (model prog w) A (pyIter (.ref r)) Q E ⟨h, g, d, t, os⟩ :=
  wpAny_pyIter_range (s := ⟨h, g, d, t, os⟩) (G.get hr) hsm (k _ _ (G.push _))
/-- one more turn of a loop over a range: the iterator stands in the ledger -/
theorem r_rturn {x px body} {Q : Flow → Shared → Prop} {I : Addr} {a n c : Int} (G : Lg h₀ L h m news) (U : Put I (rgIt a n c) (rgIt (a + c) (n - 1) c) news news'') (hn : 0 < n)
    (hk : cs.kind = .function) (hx : (envX cn cs L D ccd cl).kindOf x = some .local)
    (k : ∀ h' t' u, Lg h₀ L h' (fun y => if y = x then some (.int a u) else m y) news'' → wpAny (model prog w) A (execs body (envX cn cs L D ccd cl)) (FoQ prog w A (envX cn cs L D ccd cl) x px body Q I) (fun _ _ => False) ⟨h', g, d, t', os⟩) :
    FoR prog w A (envX cn cs L D ccd cl) x px body Q I ⟨h, g, d, t, os⟩ := by
  refine r_fturn (wpAny_pyNext_range_item (s := ⟨h, g, d, t, os⟩) (G.get U.mem) hn fun h' hit hs => ?_)
  exact r_store (G.put U hs hit) hk hx fun h'' t' G' => k h'' t' _ G'
theorem Lg.drop (G : Lg h₀ L h m news) {I : Addr} {o : Obj} (U : Pull I o news news'') (hb : Heap.ExtBut I h hh) : Lg h₀ L hh m news'' := by
  have G := G.pull U
  have z := G.nw (I, o) (.head _)
  have nd := List.nodup_cons.mp (List.map_cons ▸ G.nd)
  refine ⟨⟨G.fr.ns.at' fun o e => hb L o (fun q => z.2.1 q.symm) e, fun b o e => hb b o (fun q => ?_) (G.fr.keep b o e), G.fr.above⟩, fun p hp => ?_, nd.2⟩
  · rw [q, z.2.2] at e; cases e
  · have y := G.nw p (.tail _ hp)
    exact ⟨hb _ _ (fun q => nd.1 (List.mem_map.mpr ⟨p, hp, q⟩)) y.1, y.2⟩
theorem r_rend {x px body} {Q : Flow → Shared → Prop} {I : Addr} {a n c : Int} (ha : Ar A env outer tt tt) (G : Lg h₀ L h m news) (U : Pull I (rgIt a n c) news news'') (hn : n ≤ 0)
    (k : ∀ h' t', Lg h₀ L h' m news'' → Q .next ⟨h', g, d, t', os⟩) :
    FoR prog w A env x px body Q I ⟨h, g, d, t, os⟩ :=
  r_fturn (wpAny_pyNext_range_end (s := ⟨h, g, d, t, os⟩) ha.hd (G.get U.mem) hn fun h' hb => k _ _ (G.drop U hb))

-- comprehensions
noncomputable abbrev CmpK (prog : Program) (w : World) (A : Around) (E : Value → Shared → Prop) (use : Option (Value → Sem Unit)) (env : Env) (elt iter : Expr) (x : Str) (px : Pos) (scope : Scope) (cl : List (Str × Addr)) (pos : Pos) (Q : Value → Shared → Prop) (xv : Value) (s₁ : Shared) : Prop :=
  wpAny (model prog w) A (pyIter xv) (fun it s₂ => wpAny (model prog w) A (newList []) (fun acc s₃ => wpAny (model prog w) A (newFunctionEnv scope env.globals cl [] env.qual none .none (some env)) (fun cenv s₄ =>
      codeAny (model prog w) A (.compStart (.ListComp elt [⟨.Name x px, iter, [], 0⟩] scope pos) 0 it acc { cenv with scope := relabel scope env }) (compPost (model prog w) A E use Q acc cenv.locals) s₄) E s₃) E s₂) E s₁
theorem r_lc {elt iter : Expr} {x : Str} {px : Pos} {scope : Scope} {cl : List (Str × Addr)} {pos : Pos} {s : Shared} {Q : Value → Shared → Prop} (hclos : closureFor scope env = pure cl) (hkind : scope.kind = .function)
    (hnames : ∀ y ∈ scope.names, y.2 = .local → scope.names.lookup y.1 = some .local) (hs : ∀ x, foldedSetIterable iter env x = pure x)
    (k : wpAny (model prog w) A (eval iter env) (CmpK prog w A E none env elt iter x px scope cl pos Q) E s) : wpAny (model prog w) A (eval (.ListComp elt [⟨.Name x px, iter, [], 0⟩] scope pos) env) Q E s := by
  rw [eval_ListComp]
  exact wpAny_comprehension_free (use := none) rfl hs hclos hkind hnames k
theorem r_alc {elt iter : Expr} {x y : Str} {px py : Pos} {scope : Scope} {cl : List (Str × Addr)} {pos spos : Pos} {s : Shared} {Q : Flow → Shared → Prop}
    (hsw : swapsWith (.ListComp elt [⟨.Name x px, iter, [], 0⟩] scope pos) (some (.Name y py)) spos.line env = pure true) (hclos : closureFor scope env = pure cl) (hkind : scope.kind = .function)
    (hnames : ∀ y ∈ scope.names, y.2 = .local → scope.names.lookup y.1 = some .local) (hs : ∀ x, foldedSetIterable iter env x = pure x)
    (k : wpAny (model prog w) A (eval iter env) (CmpK prog w A E (some (assign (.Name y py) env)) env elt iter x px scope cl pos (fun _ s' => Q .next s')) E s) : wpAny (model prog w) A (exec (.Assign [.Name y py] (.ListComp elt [⟨.Name x px, iter, [], 0⟩] scope pos) spos) env) Q E s := by
  rw [exec_Assign_Name_used _ _ _ _ hsw]
  refine wpAny_bind (wpAny_standAt (wpAny_bind ?_))
  show wpAny _ A (do let _ ← comprehension (.ListComp elt [⟨.Name x px, iter, [], 0⟩] scope pos) scope env _ (newList []) false (eval iter env) (some (assign (.Name y py) env))) _ _ s
  exact wpAny_bind (wpAny_mono (wpAny_comprehension_free (use := some (assign (.Name y py) env)) (Q := fun _ s' => Q .next s') rfl hs hclos hkind hnames k) (fun _ s' hq => wpAny_pure (wpAny_pure hq)) fun _ _ e => e)

theorem lc_rest {elt : Expr} {x : Str} {scope : Scope} {n : Nat} {S : List (Addr × Obj) → Prop} {P : Nat → Value → Prop} {Fin : List Value → List (Addr × Obj) → Prop} (J : Nat → List Value → List (Addr × Obj) → Prop) (hS : ∀ i ys nw, J i ys nw → S nw)
    (step : ∀ i v ys nw I oI C oC D m₂ h t, i < n → P i v → J i ys nw → LCg.NsObj oC m₂ → m₂ x = some v → Lg h₀ L h m ((I, oI) :: (C, oC) :: (D, LCg.lst ys) :: nw) →
      wpAny (model prog w) A (eval elt (compEnvC scope cl C env)) (fun y s' => ∃ h' t' nw', s' = ⟨h', g, d, t', os⟩ ∧ Lg h₀ L h' m ((I, oI) :: (C, oC) :: (D, LCg.lst ys) :: nw') ∧ J (i + 1) (ys ++ [y]) nw') (fun _ _ => False) ⟨h, g, d, t, os⟩)
    (fin : ∀ ys nw, J n ys nw → (nw.map (·.1)).Nodup → Fin ys nw) :
    ∀ k i ys nw, i + k = n → J i ys nw → (nw.map (·.1)).Nodup → LCg.CompRest prog w A h₀ L m env elt x scope cl ⟨hh, g, d, tt, os⟩ S P Fin k i ys nw
  | 0, i, ys, nw, e, j, nd => by
    obtain rfl : i = n := by omega
    exact fin ys nw j nd
  | k + 1, i, ys, nw, e, j, nd => by
    refine LCg.CompRest.succ fun v I oI C oC D m₂ h tk E' hP hC hx F N off ne => ?_
    have off' := off.mem
    refine wpAny_mono (step i v ys nw I oI C oC D m₂ h tk (by omega) hP j hC hx ⟨F, N, ?_⟩) (fun y s' z => ?_) fun _ _ z => z.elim
    · simp only [List.map_cons, List.nodup_cons, List.mem_cons, not_or]
      refine ⟨⟨ne.1, ne.2.1, fun q => ?_⟩, ⟨ne.2.2, fun q => ?_⟩, fun q => ?_, nd⟩
      · obtain ⟨p, hp, q⟩ := List.mem_map.mp q; exact (off' p hp).1 q
      · obtain ⟨p, hp, q⟩ := List.mem_map.mp q; exact (off' p hp).2.1 q
      · obtain ⟨p, hp, q⟩ := List.mem_map.mp q; exact (off' p hp).2.2 q
    · obtain ⟨h', t', nw', rfl, G, j'⟩ := z
      have nd' := G.nd
      simp only [List.map_cons, List.nodup_cons, List.mem_cons, not_or] at nd'
      refine ⟨h', t', nw', rfl, G.fr, G.nw, LCg.Off3.of fun p hp => ⟨fun q => nd'.1.2.2 (List.mem_map.mpr ⟨p, hp, q⟩), fun q => nd'.2.1.2 (List.mem_map.mpr ⟨p, hp, q⟩), fun q => nd'.2.2.1 (List.mem_map.mpr ⟨p, hp, q⟩)⟩, hS _ _ _ j', ?_⟩
      exact lc_rest J hS step fin k (i + 1) _ nw' (by omega) j' nd'.2.2.2

/-- the list is made: what is behind it, bare or stored under a name -/
noncomputable def EndK (prog : Program) (w : World) (A : Around) (E : Value → Shared → Prop) (use : Option (Value → Sem Unit)) (Q : Value → Shared → Prop) (h₀ : Heap) (L : Addr) (m : Str → Option Value) (g : Array GenState) (d : Drawn) (os : OsState) (Fin : List Value → List (Addr × Obj) → Prop) : Prop :=
  ∀ D C h t m' ys nw, Lg h₀ L h m ((D, LCg.lst ys) :: nw) → h.Ns C m' → h₀.get? C = none → C ≠ L → (∀ p ∈ (D, LCg.lst ys) :: nw, p.1 ≠ C) → Fin ys nw → compPost (model prog w) A E use Q (.ref D) C (.ok .next) ⟨h, g, d, t, os⟩
theorem Lg.same {C : Addr} {h' : Heap} (G : Lg h₀ L h m news) (hs : Heap.SameBut C h h') (hC : h₀.get? C = none) (hL : C ≠ L) (off : ∀ p ∈ news, p.1 ≠ C) : Lg h₀ L h' m news :=
  ⟨G.fr.change hs hL hC, fun p hp => ⟨hs.extBut _ _ (off p hp) (G.nw p hp).1, (G.nw p hp).2⟩, G.nd⟩
theorem endK_none {Q : Value → Shared → Prop} {Fin : List Value → List (Addr × Obj) → Prop} (k : ∀ D h t ys nw, Lg h₀ L h m ((D, LCg.lst ys) :: nw) → Fin ys nw → Q (.ref D) ⟨h, g, d, t, os⟩) : EndK prog w A E none Q h₀ L m g d os Fin :=
  fun D C h t m' ys nw G hn hC hL off f => ⟨m', hn, fun h' hs => k D h' t ys nw (G.same hs hC hL off) f⟩
theorem endK_some {Q : Flow → Shared → Prop} {Fin : List Value → List (Addr × Obj) → Prop} {y : Str} {py : Pos} (hk : cs.kind = .function) (hy : (envX cn cs L a ccd cl).kindOf y = some .local)
    (k : ∀ D h t ys nw, Lg h₀ L h (fun z => if z = y then some (.ref D) else m z) ((D, LCg.lst ys) :: nw) → Fin ys nw → Q .next ⟨h, g, d, t, os⟩) : EndK prog w A E (some (assign (.Name y py) (envX cn cs L a ccd cl))) (fun _ s' => Q .next s') h₀ L m g d os Fin :=
  fun D C h t m' ys nw G hn hC hL off f => by
    show wpAny (model prog w) A (assign (.Name y py) (envX cn cs L a ccd cl) (.ref D)) _ E _
    refine wpAny_assign_Name (wpAny_storeName_local (s := ⟨h, g, d, t, os⟩) hy G.fr.ns (fun h₂ hn₂ hs₂ => ?_) (by show (cs.kind == .class || (cs.kind == .module && L != mainGlobals)) = false; rw [hk]; rfl))
    have G₂ : Lg h₀ L h₂ (fun z => if z = y then some (.ref D) else m z) ((D, LCg.lst ys) :: nw) := ⟨G.fr.set hn₂ hs₂, G.nw.set hs₂, G.nd⟩
    exact ⟨m', hn.sameBut hs₂ hL, fun h' hs => k D h' _ ys nw (G₂.same hs hC hL off) f⟩

section
variable {use : Option (Value → Sem Unit)} {elt iter : Expr} {x : Str} {px : Pos} {scope : Scope} {pos : Pos} {Q : Value → Shared → Prop} (J : Nat → List Value → List (Addr × Obj) → Prop) {n : Nat}
theorem cmp_core {I : Addr} {fp : List Addr} {P : Nat → Value → Prop} {St : Nat → Heap → Prop} {S : List (Addr × Obj) → Prop} {s₂ : Shared} (es : s₂ = ⟨h, g, d, t, os⟩) (W : Walks prog w A I fp [I] n P St) (hsz : n ≤ sizeLine) (hIo : ∀ i h, St i h → ∃ o, h.get? I = some o)
    (hSt : ∀ i h h' o nw, St i h → h.get? I = some o → h'.get? I = some o → (∀ b o, h₀.get? b = some o → h'.get? b = some o) → News h₀ L h' nw → S nw → St i h')
    (hcell : ∀ y ∈ scope.names, y.2 ≠ .cell) (hkind : scope.kind = .function) (hx : scope.names.lookup x = some .local) (hst : St 0 h) (hfp : ∀ b ∈ fp, b < h.objs.size)
    (G : Lg h₀ L h m news) (hIL : L ≠ I) (hI₀ : h₀.get? I = none) (off : ∀ p ∈ news, p.1 ≠ I) (hS : ∀ i ys nw, J i ys nw → S nw) (h0 : J 0 [] news)
    (step : ∀ i v ys nw I oI C oC D m₂ h t, i < n → P i v → J i ys nw → LCg.NsObj oC m₂ → m₂ x = some v → Lg h₀ L h m ((I, oI) :: (C, oC) :: (D, LCg.lst ys) :: nw) →
      wpAny (model prog w) A (eval elt (compEnvC scope cl C env)) (fun y s' => ∃ h' t' nw', s' = ⟨h', g, d, t', os⟩ ∧ Lg h₀ L h' m ((I, oI) :: (C, oC) :: (D, LCg.lst ys) :: nw') ∧ J (i + 1) (ys ++ [y]) nw') (fun _ _ => False) ⟨h, g, d, t, os⟩)
    (he : EndK prog w A E use Q h₀ L m g d os (J n)) :
    wpAny (model prog w) A (newList []) (fun acc s₃ => wpAny (model prog w) A (newFunctionEnv scope env.globals cl [] env.qual none .none (some env)) (fun cenv s₄ =>
      codeAny (model prog w) A (.compStart (.ListComp elt [⟨.Name x px, iter, [], 0⟩] scope pos) 0 (.ref I) acc { cenv with scope := relabel scope env }) (compPost (model prog w) A E use Q acc cenv.locals) s₄) E s₃) E s₂ := by
  subst es
  refine LCg.block_U (s₂ := ⟨h, g, d, t, os⟩) (Fin := fun ys nw => J n ys nw ∧ (nw.map (·.1)).Nodup) (RR := compPost (model prog w) A E use Q) W hsz hIo hSt hcell hkind hx hst hfp G.fr G.nw hIL hI₀ off (hS _ _ _ h0)
    (lc_rest (hh := h) (tt := t) J hS step (fun ys nw j nd => ⟨j, nd⟩) n 0 [] news (Nat.zero_add n) h0 G.nd) ?_
  intro D C h' tk m' ys nw F N o1 hn hC₀ hD₀ hCL hDL hCD offC fin
  refine he D C h' tk m' ys nw ⟨F, N, ?_⟩ hn hC₀ hCL (fun p hp => ?_) fin.1
  · rw [List.map_cons, List.nodup_cons]
    refine ⟨fun q => ?_, fin.2⟩
    obtain ⟨p, hp, q⟩ := List.mem_map.mp q
    have mem : ∀ {l : List (Addr × Obj)}, LCg.Off1 D l → ∀ p ∈ l, p.1 ≠ D := by
      intro l
      induction l with
      | nil => exact fun _ _ h => nomatch h
      | cons y r ih =>
        intro z p hp
        rcases List.mem_cons.mp hp with rfl | hp
        · exact z.1
        · exact ih z.2 p hp
    exact mem o1 p hp q
  · rcases List.mem_cons.mp hp with rfl | hp
    · exact Ne.symm hCD
    · exact offC p hp

variable (hcell : ∀ y ∈ scope.names, y.2 ≠ .cell) (hkind : scope.kind = .function) (hx : scope.names.lookup x = some .local) (hH : A.handled = none)
include hcell hkind hx hH
/-- over a text's signs -/
theorem cmp_str {y : Str} {u : Tok} (G : Lg h₀ L h m news) (hsz : y.cps.size ≤ sizeLine) (h0 : J 0 [] news)
    (step : ∀ i v ys nw I oI C oC D m₂ h t, i < y.cps.size → SignAt y i v → J i ys nw → LCg.NsObj oC m₂ → m₂ x = some v → Lg h₀ L h m ((I, oI) :: (C, oC) :: (D, LCg.lst ys) :: nw) →
      wpAny (model prog w) A (eval elt (compEnvC scope cl C env)) (fun y s' => ∃ h' t' nw', s' = ⟨h', g, d, t', os⟩ ∧ Lg h₀ L h' m ((I, oI) :: (C, oC) :: (D, LCg.lst ys) :: nw') ∧ J (i + 1) (ys ++ [y]) nw') (fun _ _ => False) ⟨h, g, d, t, os⟩)
    (he : EndK prog w A E use Q h₀ L m g d os (J y.cps.size)) : CmpK prog w A E use env elt iter x px scope cl pos Q (.str y u) ⟨h, g, d, t, os⟩ := by
  have key : ∀ (ty : String) (o : Obj), Heap.IsStrIter (h.push o) h.objs.size ty y u 0 → (∀ A', A'.handled = none → Walks prog w A' h.objs.size [h.objs.size] [h.objs.size] y.cps.size (SignAt y) (fun i h' => h'.IsStrIter h.objs.size ty y u i)) →
      wpAny (model prog w) A (newList []) (fun acc s₃ => wpAny (model prog w) A (newFunctionEnv scope env.globals cl [] env.qual none .none (some env)) (fun cenv s₄ =>
      codeAny (model prog w) A (.compStart (.ListComp elt [⟨.Name x px, iter, [], 0⟩] scope pos) 0 (.ref h.objs.size) acc { cenv with scope := relabel scope env }) (compPost (model prog w) A E use Q acc cenv.locals) s₄) E s₃) E ⟨h.push o, g, d, t, os⟩ := fun ty o hi W => by
    refine cmp_core J rfl (W A hH) hsz (fun i h st => by obtain ⟨o, e, _⟩ := st; exact ⟨o, e⟩) (S := fun _ => True) (fun i h h' o nw st e e' _ _ _ => ?_) hcell hkind hx hi (fun b hb => ?_) (G.keeps fun b o e => Heap.get?_push_of_some _ e) (Nat.ne_of_lt G.fr.ns.lt) (next_is_new G.fr) (fun p hp => Nat.ne_of_lt (Heap.lt_size (G.nw p hp).1)) (fun _ _ _ _ => trivial) h0 step he
    · obtain ⟨o', q, r⟩ := st
      rw [e] at q; cases q
      exact ⟨o, e', r⟩
    · rw [List.mem_singleton.mp hb, Heap.size_push]; exact Nat.lt_succ_self _
  show wpAny (model prog w) A (pyIter (.str y u)) _ E _
  cases ha : y.cps.all (· < 128)
  · exact wpAny_pyIter_wide (s := ⟨h, g, d, t, os⟩) ha (key _ _ ⟨_, Heap.get?_push_size _ rfl, rfl, rfl⟩ fun A' hA => Walks.strWide hA _ y u)
  · exact wpAny_pyIter_ascii (s := ⟨h, g, d, t, os⟩) ha (key _ _ ⟨_, Heap.get?_push_size _ rfl, rfl, rfl⟩ fun A' hA => Walks.strAscii hA _ y u)
/-- over a list of the ledger -/
theorem cmp_list {ax : Addr} {vs : List Value} {k : Nat} (G : Lg h₀ L h m news) (hsz : vs.length ≤ sizeLine) (hS : ∀ i ys nw, J i ys nw → (ax, listOf vs.toArray k) ∈ nw) (h0 : J 0 [] news)
    (step : ∀ i v ys nw I oI C oC D m₂ h t, i < vs.length → vs[i]? = some v → J i ys nw → LCg.NsObj oC m₂ → m₂ x = some v → Lg h₀ L h m ((I, oI) :: (C, oC) :: (D, LCg.lst ys) :: nw) →
      wpAny (model prog w) A (eval elt (compEnvC scope cl C env)) (fun y s' => ∃ h' t' nw', s' = ⟨h', g, d, t', os⟩ ∧ Lg h₀ L h' m ((I, oI) :: (C, oC) :: (D, LCg.lst ys) :: nw') ∧ J (i + 1) (ys ++ [y]) nw') (fun _ _ => False) ⟨h, g, d, t, os⟩)
    (he : EndK prog w A E use Q h₀ L m g d os (J vs.length)) : CmpK prog w A E use env elt iter x px scope cl pos Q (.ref ax) ⟨h, g, d, t, os⟩ := by
  have hm := hS _ _ _ h0
  have hl : h.IsList ax vs.toArray := ⟨_, G.get hm, rfl, k, rfl⟩
  have hlt := G.lt hm
  refine wpAny_pyIter_list (s := ⟨h, g, d, t, os⟩) hl ?_
  have W := Walks.list (prog := prog) (w := w) hH h.objs.size ax (Nat.ne_of_lt hlt) vs.toArray
  have e1 : vs.toArray.size = vs.length := List.size_toArray ..
  rw [e1] at W
  refine cmp_core J rfl W hsz (fun i h st => by obtain ⟨o, e, _⟩ := st.1; exact ⟨o, e⟩) (S := fun nw => (ax, listOf vs.toArray k) ∈ nw) (fun i h h' o nw st e e' _ N hm => ⟨?_, ⟨_, (N _ hm).1, rfl, k, rfl⟩⟩) hcell hkind hx ⟨⟨_, Heap.get?_push_size _ rfl, rfl, rfl⟩, hl.push _⟩ (fun b hb => ?_)
    (G.keeps fun b o e => Heap.get?_push_of_some _ e) (Nat.ne_of_lt G.fr.ns.lt) (next_is_new G.fr) (fun p hp => Nat.ne_of_lt (Heap.lt_size (G.nw p hp).1)) hS h0 (fun i v ys nw I oI C oC D m₂ h t hi hv => step i v ys nw I oI C oC D m₂ h t hi (by simpa using hv)) he
  · obtain ⟨o', q, r⟩ := st.1
    rw [e] at q; cases q
    exact ⟨o, e', r⟩
  · rw [Heap.size_push]
    rcases List.mem_cons.mp hb with rfl | hb
    · exact Nat.lt_succ_self _
    · rw [List.mem_singleton.mp hb]; exact Nat.lt_succ_of_lt hlt
/-- over a range of the ledger -/
theorem cmp_range {r : Addr} {a₁ b₁ : Int} {t₁ t₂ t₃ : Tok} (G : Lg h₀ L h m news) (hr : (r, rgObj a₁ b₁ 1 t₁ t₂ t₃) ∈ news) (hsm : Builtin.Range.small a₁ b₁ 1 = true) (hn : Builtin.Range.rangeSize a₁ b₁ 1 = (n : Int)) (hsz : n ≤ sizeLine) (h0 : J 0 [] news)
    (step : ∀ i v ys nw I oI C oC D m₂ h t, i < n → (∃ u, v = .int (a₁ + (i : Int)) u) → J i ys nw → LCg.NsObj oC m₂ → m₂ x = some v → Lg h₀ L h m ((I, oI) :: (C, oC) :: (D, LCg.lst ys) :: nw) →
      wpAny (model prog w) A (eval elt (compEnvC scope cl C env)) (fun y s' => ∃ h' t' nw', s' = ⟨h', g, d, t', os⟩ ∧ Lg h₀ L h' m ((I, oI) :: (C, oC) :: (D, LCg.lst ys) :: nw') ∧ J (i + 1) (ys ++ [y]) nw') (fun _ _ => False) ⟨h, g, d, t, os⟩)
    (he : EndK prog w A E use Q h₀ L m g d os (J n)) : CmpK prog w A E use env elt iter x px scope cl pos Q (.ref r) ⟨h, g, d, t, os⟩ := by
  refine wpAny_pyIter_range (s := ⟨h, g, d, t, os⟩) (G.get hr) hsm ?_
  refine cmp_core J rfl (LCg.range_walks hH a₁ n) hsz (fun i h st => ⟨_, st⟩) (S := fun _ => True) LCg.range_st hcell hkind hx (by show IsRangeIter _ _ _ _ _; rw [hn]; simpa using Heap.get?_push_size _ rfl) (fun b hb => ?_)
    (G.keeps fun b o e => Heap.get?_push_of_some _ e) (Nat.ne_of_lt G.fr.ns.lt) (next_is_new G.fr) (fun p hp => Nat.ne_of_lt (Heap.lt_size (G.nw p hp).1)) (fun _ _ _ _ => trivial) h0 step he
  rw [List.mem_singleton.mp hb, Heap.size_push]; exact Nat.lt_succ_self _
end
end
noncomputable abbrev en (k : Nat → Int) (t : Nat → Tok) (i : Nat) (n : String) (v : Value) : DictEntry := ⟨k i, .str (Str.ofString n) (t i), v⟩
noncomputable abbrev prE (k : Nat → Int) (t : Nat → Tok) (oA : Addr) (ob lb : Value) (cA jA rA : Addr) : List DictEntry := [en k t 0 "options" (.ref oA), en k t 1 "obarray" ob, en k t 2 "labels" lb, en k t 3 "codes" (.ref cA), en k t 4 "jobs" (.ref jA), en k t 5 "around" (.ref rA)]
noncomputable abbrev opE (k : Nat → Int) (t : Nat → Tok) (len lev qu : Value) : List DictEntry := [en k t 0 "is_quoting" (.bool true), en k t 1 "length" len, en k t 2 "level" lev, en k t 3 "escape_newlines" (.bool false), en k t 4 "quoted" qu, en k t 5 "circle" (.bool false), en k t 6 "gensym" (.bool false), en k t 7 "spans_rows" .none]
noncomputable abbrev coE (k : Nat → Int) (t : Nat → Tok) (car cdr : Value) : List DictEntry := [en k t 0 "car" car, en k t 1 "cdr" cdr]
noncomputable abbrev veE (k : Nat → Int) (t : Nat → Tok) (l : Addr) : List DictEntry := [en k t 0 "things" (.ref l)]
noncomputable abbrev syE (k : Nat → Int) (t : Nat → Tok) (num : Int) (x : Str) : List DictEntry := [en k t 0 "number" (.int num (t 2)), en k t 1 "name" (.str x (t 3))]

/-- the symbols that the law spells -/
inductive Sy where
  | nil | a | quote | func | splice
  deriving DecidableEq
def Sy.name : Sy → Str
  | .nil => Str.ofString "nil"
  | .a => Str.ofString "a"
  | .quote => Str.ofString "quote"
  | .func => Str.ofString "function"
  | .splice => Str.ofString ",@"
def Sy.codes : Sy → List Int
  | .nil => [110, 105, 108]
  | .a => [97]
  | .quote => [113, 117, 111, 116, 101]
  | .func => [102, 117, 110, 99, 116, 105, 111, 110]
  | .splice => [92, 44, 64]
def Sy.mark : Sy → List Int
  | .quote => [39]
  | .func => [35, 39]
  | .splice => [44, 64]
  | _ => []
inductive At where
  | five | three | sym (s : Sy)
def At.codes : At → List Int
  | .five => [53]
  | .three => [45, 51]
  | .sym s => s.codes
inductive Nd (α : Type) where
  | at (a : At)
  | lst (ds : List α) (dot : Bool)
  | vec (ds : List α)
noncomputable def Dt : Nat → Type
  | 0 => At
  | n + 1 => Nd (Dt n)
def symOf : (n : Nat) → Dt n → Option Sy
  | 0, .sym s => some s
  | _ + 1, .at (.sym s) => some s
  | 0, _ => none
  | _ + 1, _ => none
def markOf (n : Nat) (d : Dt n) : List Int := match symOf n d with
  | some s => s.mark
  | none => []
/-- the sign of a quote, if two things make one -/
def quoteOf (n : Nat) : List (Dt n) → List Int
  | [q, _] => markOf n q
  | _ => []
noncomputable def joinSp : List (List Int) → List Int
  | [] => []
  | [x] => x
  | x :: r => x ++ 32 :: joinSp r
noncomputable def partsOf {α : Type} (f : α → List Int) (len : Int) (ds : List α) (dot : Bool) : List (List Int) :=
  (if len < 0 then ds else ds.take len.toNat).map f ++ (if 0 ≤ len ∧ len < ds.length then [[46, 46, 46]] else if dot then [[46], [55]] else [])
noncomputable def txt (len lev : Int) (sh : Bool) : (n : Nat) → Dt n → Int → List Int
  | 0, a, _ => At.codes a
  | _ + 1, .at a, _ => a.codes
  | n + 1, .lst ds dot, dep => if 0 ≤ lev ∧ lev ≤ dep then [35] else
      if dot = false ∧ quoteOf n ds ≠ [] ∧ sh = true then quoteOf n ds ++ (match ds with | [_, x] => txt len lev sh n x (dep + 1) | _ => [])
      else 40 :: joinSp (partsOf (fun d => txt len lev sh n d (dep + 1)) len ds dot) ++ [41]
  | n + 1, .vec ds, dep => if 0 ≤ lev ∧ lev ≤ dep then [35] else 91 :: joinSp (partsOf (fun d => txt len lev sh n d (dep + 1)) len ds false) ++ [93]

/-- what the printer writes of a row from a place on -/
noncomputable def rowT {α : Type} (f : α → List Int) (len : Int) (dot : Bool) : Nat → List α → List Int
  | _, [] => if dot then [32, 46, 32, 55, 41] else [41]
  | i, d :: r => (if i = 0 then [] else [32]) ++ if 0 ≤ len ∧ len ≤ i then [46, 46, 46, 41] else f d ++ rowT f len dot (i + 1) r
noncomputable def cellT {α : Type} (f : α → List Int) (len : Int) : Nat → List α → List Int
  | _, [] => [93]
  | i, d :: r => (if i = 0 then [] else [32]) ++ if 0 ≤ len ∧ len ≤ i then [46, 46, 46, 93] else f d ++ cellT f len (i + 1) r

theorem joinSp_cons (x : List Int) (r : List (List Int)) (h : r ≠ []) : joinSp (x :: r) = x ++ 32 :: joinSp r := by
  cases r with
  | nil => exact absurd rfl h
  | cons y r => rfl
theorem row_pos {α : Type} (f : α → List Int) (len : Int) (dot : Bool) : ∀ (ds : List α) (i : Nat), 0 < i → (len < 0 ∨ (i : Int) ≤ len) →
    rowT f len dot i ds = (match partsOf f (if len < 0 then len else len - i) ds dot with | [] => [] | p => 32 :: joinSp p) ++ [41] := by
  intro ds
  induction ds with
  | nil =>
    intro i hi hl
    unfold rowT partsOf
    have h1 : ¬(0 ≤ (if len < 0 then len else len - ↑i) ∧ (if len < 0 then len else len - ↑i) < (([] : List α).length : Int)) := by
      intro ⟨h1, h2⟩
      simp at h2
      omega
    rw [if_neg h1]
    cases dot <;> simp [joinSp]
  | cons d r ih =>
    intro i hi hl
    have hi0 : ¬ i = 0 := by omega
    unfold rowT
    rw [if_neg hi0]
    by_cases hc : 0 ≤ len ∧ len ≤ (i : Int)
    · rw [if_pos hc]
      have he : len = i := by omega
      have hn : ¬ len < 0 := by omega
      unfold partsOf
      rw [if_neg hn]
      have hz : len - (i : Int) = 0 := by omega
      rw [hz]
      have h1 : (0 : Int) ≤ 0 ∧ (0 : Int) < ((d :: r).length : Int) := ⟨by omega, by rw [List.length_cons]; omega⟩
      rw [if_pos h1]
      simp [joinSp]
    · rw [if_neg hc, ih (i + 1) (by omega) (by omega)]
      by_cases hn : len < 0
      · simp only [if_pos hn]
        unfold partsOf
        simp only [if_pos hn, List.map_cons, List.cons_append]
        have a1 : ¬(0 ≤ len ∧ len < ((d :: r).length : Int)) := by omega
        have a2 : ¬(0 ≤ len ∧ len < (r.length : Int)) := by omega
        rw [if_neg a1, if_neg a2]
        generalize (List.map f r ++ if dot = true then [[46], [55]] else []) = P9
        cases P9 with
        | nil => simp [joinSp]
        | cons y q => simp [joinSp_cons _ (y :: q)]
      · simp only [if_neg hn]
        unfold partsOf
        have e1 : len - ((i + 1 : Nat) : Int) = len - i - 1 := by omega
        rw [e1]
        have b1 : ¬ (len - (i : Int) < 0) := by omega
        have b2 : ¬ (len - (i : Int) - 1 < 0) := by omega
        rw [if_neg b1, if_neg b2]
        have e2 : (len - (i : Int)).toNat = (len - (i : Int) - 1).toNat + 1 := by omega
        rw [e2, List.take_succ_cons, List.map_cons, List.cons_append]
        have e3 : (0 ≤ len - (i : Int) ∧ len - (i : Int) < ((d :: r).length : Int)) ↔ (0 ≤ len - (i : Int) - 1 ∧ len - (i : Int) - 1 < (r.length : Int)) := by
          simp only [List.length_cons]; omega
        simp only [e3, List.cons_append, List.nil_append]
        generalize (List.map f (List.take (len - (i : Int) - 1).toNat r) ++ if 0 ≤ len - (i : Int) - 1 ∧ len - (i : Int) - 1 < (r.length : Int) then [[46, 46, 46]] else if dot = true then [[46], [55]] else []) = P9
        cases P9 with
        | nil => simp [joinSp]
        | cons y q => simp [joinSp_cons _ (y :: q)]
theorem row_zero {α : Type} (f : α → List Int) (len : Int) (dot : Bool) (ds : List α) (hd : ds ≠ []) : rowT f len dot 0 ds = joinSp (partsOf f len ds dot) ++ [41] := by
  cases ds with
  | nil => exact absurd rfl hd
  | cons d r =>
    unfold rowT
    rw [if_pos rfl, List.nil_append]
    by_cases hc : 0 ≤ len ∧ len ≤ ((0 : Nat) : Int)
    · rw [if_pos hc]
      have he : len = 0 := by omega
      subst he
      unfold partsOf
      simp only [Int.lt_irrefl, if_false, Int.toNat_zero, List.take_zero, List.map_nil, List.nil_append]
      have h1 : (0 : Int) ≤ 0 ∧ (0 : Int) < ((d :: r).length : Int) := ⟨by omega, by rw [List.length_cons]; omega⟩
      rw [if_pos h1]
      simp [joinSp]
    · rw [if_neg hc, row_pos f len dot r 1 (by omega) (by omega)]
      unfold partsOf
      by_cases hn : len < 0
      · simp only [if_pos hn, List.map_cons, List.cons_append]
        have a1 : ¬(0 ≤ len ∧ len < ((d :: r).length : Int)) := by omega
        have a2 : ¬(0 ≤ len ∧ len < (r.length : Int)) := by omega
        rw [if_neg a1, if_neg a2]
        generalize (List.map f r ++ if dot = true then [[46], [55]] else []) = P9
        cases P9 with
        | nil => simp [joinSp]
        | cons y q => simp [joinSp_cons _ (y :: q)]
      · simp only [if_neg hn]
        have b2 : ¬ (len - ((1 : Nat) : Int) < 0) := by omega
        rw [if_neg b2]
        have e2 : len.toNat = (len - ((1 : Nat) : Int)).toNat + 1 := by omega
        rw [e2, List.take_succ_cons, List.map_cons, List.cons_append]
        have e3 : (0 ≤ len ∧ len < ((d :: r).length : Int)) ↔ (0 ≤ len - ((1 : Nat) : Int) ∧ len - ((1 : Nat) : Int) < (r.length : Int)) := by
          simp only [List.length_cons]; omega
        simp only [e3, List.cons_append, List.nil_append]
        generalize (List.map f (List.take (len - ((1 : Nat) : Int)).toNat r) ++ if 0 ≤ len - ((1 : Nat) : Int) ∧ len - ((1 : Nat) : Int) < (r.length : Int) then [[46, 46, 46]] else if dot = true then [[46], [55]] else []) = P9
        cases P9 with
        | nil => simp [joinSp]
        | cons y q => simp [joinSp_cons _ (y :: q)]
theorem cell_row {α : Type} (f : α → List Int) (len : Int) : ∀ (ds : List α) (i : Nat), ∃ x, cellT f len i ds = x ++ [93] ∧ rowT f len false i ds = x ++ [41] := by
  intro ds
  induction ds with
  | nil => intro i; exact ⟨[], rfl, rfl⟩
  | cons d r ih =>
    intro i
    unfold cellT rowT
    by_cases hc : 0 ≤ len ∧ len ≤ (i : Int)
    · rw [if_pos hc, if_pos hc]
      exact ⟨(if i = 0 then [] else [32]) ++ [46, 46, 46], by simp, by simp⟩
    · rw [if_neg hc, if_neg hc]
      obtain ⟨x, h1, h2⟩ := ih (i + 1)
      exact ⟨(if i = 0 then [] else [32]) ++ (f d ++ x), by rw [h1]; simp, by rw [h2]; simp⟩
theorem cell_zero {α : Type} (f : α → List Int) (len : Int) (ds : List α) : cellT f len 0 ds = joinSp (partsOf f len ds false) ++ [93] := by
  cases ds with
  | nil =>
    unfold partsOf cellT
    have h1 : ¬ (0 ≤ len ∧ len < (([] : List α).length : Int)) := by rw [List.length_nil]; omega
    rw [if_neg h1]
    simp [joinSp]
  | cons d r =>
    obtain ⟨x, h1, h2⟩ := cell_row f len (d :: r) 0
    rw [h1]
    rw [row_zero f len false (d :: r) (by simp)] at h2
    have := List.append_inj_left' h2 rfl
    rw [← this]

/-- how the ledger bears an atom, a tree -/
noncomputable def RelAt (K : Frag) (news : List (Addr × Obj)) (v : Value) : At → Prop
  | .five => ∃ u, v = .int 5 u
  | .three => ∃ u, v = .int (-3) u
  | .sym s => ∃ x k t num, v = .ref x ∧ InsIn K news x 71 (syE k t num s.name)
noncomputable def Rel (K : Frag) (news : List (Addr × Obj)) : (n : Nat) → Addr → Value → Dt n → Prop
  | 0, _, v, a => RelAt K news v a
  | _ + 1, _, v, .at a => RelAt K news v a
  | n + 1, b, v, .lst ds dot => ∃ (x : Addr) (xs : List Addr) (vs : List Value) (tv : Value), v = .ref x ∧ x < b ∧ (x :: xs).Pairwise (· > ·) ∧ (x :: xs).length = ds.length ∧ vs.length = ds.length ∧
      (if dot then ∃ u, tv = .int 7 u else tv = .ref 77) ∧
      (∀ (i : Nat) (y : Addr), (x :: xs)[i]? = some y → ∃ w k t dx j, vs[i]? = some w ∧ (y, instObj 98 dx) ∈ news ∧ (dx, dictOf (coE k t w (match (x :: xs)[i + 1]? with | some z => .ref z | none => tv)) j) ∈ news) ∧
      ∀ (i : Nat) (w : Value) (d : Dt n), vs[i]? = some w → ds[i]? = some d → Rel K news n x w d
  | n + 1, b, v, .vec ds => ∃ (x l dx : Addr) (vs : List Value) (k : Nat → Int) (t : Nat → Tok) (i j : Nat), v = .ref x ∧ x < b ∧ (x, instObj 141 dx) ∈ news ∧ (dx, dictOf (veE k t l) i) ∈ news ∧ (l, listOf vs.toArray j) ∈ news ∧ vs.length = ds.length ∧
      ∀ (i : Nat) (w : Value) (d : Dt n), vs[i]? = some w → ds[i]? = some d → Rel K news n x w d
theorem RelAt.mono {K : Frag} {news news' : List (Addr × Obj)} {v : Value} {a : At} (s : ∀ p ∈ news, p ∈ news') (h : RelAt K news v a) : RelAt K news' v a := by
  cases a with
  | sym s' => obtain ⟨x, k, t, num, e, i⟩ := h; exact ⟨x, k, t, num, e, i.mono s⟩
  | _ => exact h
theorem Rel.mono {K : Frag} {news news' : List (Addr × Obj)} (s : ∀ p ∈ news, p ∈ news') : ∀ (n : Nat) (b : Addr) (v : Value) (d : Dt n), Rel K news n b v d → Rel K news' n b v d
  | 0, _, _, _, h => RelAt.mono s h
  | _ + 1, _, _, .at _, h => RelAt.mono s h
  | n + 1, b, v, .lst ds dot, h => by
    obtain ⟨x, xs, vs, tv, h1, h2, h3, h4, h5, h6, h7, h8⟩ := h
    refine ⟨x, xs, vs, tv, h1, h2, h3, h4, h5, h6, fun i y hy => ?_, fun i w d hw hd => Rel.mono s n x w d (h8 i w d hw hd)⟩
    obtain ⟨w, k, t, dx, j, a, b, c⟩ := h7 i y hy
    exact ⟨w, k, t, dx, j, a, s _ b, s _ c⟩
  | n + 1, b, v, .vec ds, h => by
    obtain ⟨x, l, dx, vs, k, t, i, j, h1, h2, h3, h4, h5, h6, h7⟩ := h
    exact ⟨x, l, dx, vs, k, t, i, j, h1, h2, s _ h3, s _ h4, s _ h5, h6, fun i w d hw hd => Rel.mono s n x w d (h7 i w d hw hd)⟩
/-- a bound that lies above the whole ledger -/
theorem Rel.bound {K : Frag} {news : List (Addr × Obj)} {b : Addr} : ∀ (n : Nat) (b' : Addr) (v : Value) (d : Dt n), (∀ p ∈ news, p.1 < b) → Rel K news n b' v d → Rel K news n b v d
  | 0, _, _, _, _, h => h
  | _ + 1, _, _, .at _, _, h => h
  | n + 1, b', v, .lst ds dot, hb, h => by
    obtain ⟨x, xs, vs, tv, h1, h2, h3, h4, h5, h6, h7, h8⟩ := h
    obtain ⟨w, k, t, dx, j, a, c, _⟩ := h7 0 x rfl
    exact ⟨x, xs, vs, tv, h1, hb _ c, h3, h4, h5, h6, h7, h8⟩
  | n + 1, b', v, .vec ds, hb, h => by
    obtain ⟨x, l, dx, vs, k, t, i, j, h1, h2, h3, h4⟩ := h
    exact ⟨x, l, dx, vs, k, t, i, j, h1, hb _ h3, h3, h4⟩
theorem RelAt.handed {K : Frag} {news : List (Addr × Obj)} {v : Value} {a : At} (h : RelAt K news v a) : handedIn v = true := by
  cases a with
  | five => obtain ⟨u, rfl⟩ := h; rfl
  | three => obtain ⟨u, rfl⟩ := h; rfl
  | sym s' => obtain ⟨x, k, t, num, rfl, i⟩ := h; rfl
theorem Rel.handed {K : Frag} {news : List (Addr × Obj)} : ∀ (n : Nat) (b : Addr) (v : Value) (d : Dt n), Rel K news n b v d → handedIn v = true
  | 0, _, _, _, h => RelAt.handed h
  | _ + 1, _, _, .at _, h => RelAt.handed h
  | n + 1, b, v, .lst ds dot, h => by obtain ⟨x, _, _, _, rfl, _⟩ := h; rfl
  | n + 1, b, v, .vec ds, h => by obtain ⟨x, _, _, _, _, _, _, _, rfl, _⟩ := h; rfl
noncomputable abbrev SP (w : World) (p : Program) (loose : List Str) (mean : ExcName → Option Value) (mg mb : Str → Option Value) (f : Value) (vs : List Value) (dn un : Nat) (news : List (Addr × Obj)) (post : Value → List (Addr × Obj) → Prop) : Prop :=
  Sp PySem.Challenge.rw_np0072_01.row.toRowW.prog w (fr.heap_1 w.params) p loose mean mg mb f vs dn un news post
section
variable {prog : Program} {w : World} {A : Around} {E : Value → Shared → Prop} {K : Frag} {p : Program} {loose : List Str} {mean : ExcName → Option Value} {mg mb : Str → Option Value} {A₀ : Around} {base h₀ h hh : Heap} {outer : List Env} {L C : Addr} {m m₂ : Str → Option Value} {news news' : List (Addr × Obj)}
  {g : Array GenState} {d : Drawn} {t tt : Nat} {os : OsState} {cl : List (Str × Addr)} {env : Env} {scope : Scope} {x : Str} {pos : Pos} {v : Value} {Q : Value → Shared → Prop}
theorem r_gL {oC : Obj} (G : Lg h₀ L h m news) (hn : LCg.NsObj oC m₂) (hm : (C, oC) ∈ news) (hv : m₂ x = some v) (hk : scope.kind = .function) (hl : (compEnvC scope cl C env).kindOf x = some .local) (hd : (x == ("__debug__" : Str)) = false)
    (k : Q v ⟨h, g, d, t, os⟩) : wpAny (model prog w) A (eval (.Name x pos) (compEnvC scope cl C env)) Q E ⟨h, g, d, t, os⟩ :=
  wpAny_Name (wpAny_loadName_local (s := ⟨h, g, d, t, os⟩) hk hl (hn.ns (G.get hm)) hv k) hd
theorem r_gK (G : Lg h₀ L h m news) (X : Gr K p loose mean mg mb A₀ base outer h₀) (e : nsIn K mainGlobals x = some (some v)) (hg : env.globals = mainGlobals) (hk : scope.kind = .function) (hx : (compEnvC scope cl C env).kindOf x = some .globalImplicit) (hd : (x == ("__debug__" : Str)) = false)
    (k : Q v ⟨h, g, d, t, os⟩) : wpAny (model prog w) A (eval (.Name x pos) (compEnvC scope cl C env)) Q E ⟨h, g, d, t, os⟩ :=
  nameG_K (s := ⟨h, g, d, t, os⟩) G.fr X.x (topRead_of X.t) e k hg hk hx hd
theorem r_gB (G : Lg h₀ L h m news) (X : Gr K p loose mean mg mb A₀ base outer h₀) (e : nsIn K mainGlobals x = some none) (hb : bootBuiltins x = some v) (hn : x ≠ "__name__") (hg : env.globals = mainGlobals) (hbb : env.builtins = builtinsNs) (hk : scope.kind = .function)
    (hx : (compEnvC scope cl C env).kindOf x = some .globalImplicit) (hd : (x == ("__debug__" : Str)) = false)
    (k : Q v ⟨h, g, d, t, os⟩) : wpAny (model prog w) A (eval (.Name x pos) (compEnvC scope cl C env)) Q E ⟨h, g, d, t, os⟩ := by
  have T := topRead_of X.t
  refine Name_function_global (s := ⟨h, g, d, t, os⟩) hk hx (loadGlobal_builtin (env := compEnvC scope cl C env) (mg := mg) (mb := mb) ?_ (mg_none_of X.x T.g e) ?_ ((T.builtins x hn).trans hb) k) hd
  · show (⟨h, g, d, t, os⟩ : Shared).heap.Ns env.globals mg
    rw [hg]; exact T.g.keeps G.fr.keep
  · show (⟨h, g, d, t, os⟩ : Shared).heap.Ns env.builtins mb
    rw [hbb]; exact T.b.keeps G.fr.keep
theorem r_gC {c : Addr} {o : Obj} (G : Lg h₀ L h m news) (hc : cl.lookup x = some c) (hm : (c, o) ∈ news) (ho : o.data = .cell (some v)) (hk : scope.kind = .function) (hx : (compEnvC scope cl C env).kindOf x = some .cell) (hd : (x == ("__debug__" : Str)) = false)
    (k : Q v ⟨h, g, d, t, os⟩) : wpAny (model prog w) A (eval (.Name x pos) (compEnvC scope cl C env)) Q E ⟨h, g, d, t, os⟩ :=
  wpAny_Name (wpAny_loadName_cell (s := ⟨h, g, d, t, os⟩) hk hx hc ⟨o, G.get hm, ho⟩ k) hd
theorem r_ord {c : Nat} {u : Tok} (k : ∀ u t', Q (.int c u) ⟨h, g, d, t', os⟩) : wpAny (model prog w) A (call (.builtin "ord") [.str ⟨#[c]⟩ u]) Q E ⟨h, g, d, t, os⟩ := P.ord_of_char (s := ⟨h, g, d, t, os⟩) (k _ _)
theorem r_lcend {D I : Addr} {oI oC : Obj} {ys : List Value} {y : Value} {J : Nat → List Value → List (Addr × Obj) → Prop} {i : Nat} (G : Lg h₀ L h m ((I, oI) :: (C, oC) :: (D, LCg.lst ys) :: news)) (j : J (i + 1) (ys ++ [y]) news) :
    ∃ h' t' nw', (⟨h, g, d, t, os⟩ : Shared) = ⟨h', g, d, t', os⟩ ∧ Lg h₀ L h' m ((I, oI) :: (C, oC) :: (D, LCg.lst ys) :: nw') ∧ J (i + 1) (ys ++ [y]) nw' := ⟨h, t, news, rfl, G, j⟩
end
section
variable {prog : Program} {w : World} {A : Around} {E : Value → Shared → Prop} {K : Frag} {p : Program} {loose : List Str} {mean : ExcName → Option Value} {mg mb : Str → Option Value} {A₀ : Around} {base h₀ h hh : Heap} {outer : List Env} {L a : Addr} {m : Str → Option Value} {news news' news'' : List (Addr × Obj)} {D : Addr} {f : Obj → List (Addr × Obj)}
  {g : Array GenState} {d : Drawn} {t tt dn un : Nat} {os : OsState} {cn : Str} {cs : Scope} {ccd : Value} {cl : List (Str × Addr)} {env : Env} {M : Model}

theorem Lg.more {o : Obj} (G : Lg h₀ L h m news) (F : Fr h₀ L hh m) (N : News h₀ L hh ((D, o) :: news)) (lt : ∀ p ∈ news, p.1 < D) : Lg h₀ L hh m ((D, o) :: news) :=
  ⟨F, N, by
    rw [List.map_cons, List.nodup_cons]
    refine ⟨fun q => ?_, G.nd⟩
    obtain ⟨p, hp, q⟩ := List.mem_map.mp q
    exact absurd (lt p hp) (by rw [q]; exact Nat.lt_irrefl _)⟩
theorem Ar.line {x : Nat} (a : Ar A env outer dn un) (h : x ≤ un) : A.units + x < cLine := Nat.lt_of_le_of_lt (Nat.add_le_add_left h _) a.us

-- numbers
theorem r_pow {a n : Int} {u v : Tok} {Q : Value → Shared → Prop} (h0 : 0 < n) (h1 : n ≤ 1000000) (ha : 1 ≤ a) (hb : a.natAbs < 2 ^ 64) (k : ∀ N u t', a ≤ N → Q (.int N u) ⟨h, g, d, t', os⟩) : wpAny (model prog w) A (binaryOp .Pow (.int a u) (.int n v)) Q E ⟨h, g, d, t, os⟩ := by
  refine pow_int_small (s := ⟨h, g, d, t, os⟩) (by omega) h1 hb (k _ _ _ ?_)
  obtain ⟨b, rfl⟩ := Int.eq_ofNat_of_zero_le (show 0 ≤ a by omega)
  rw [← Int.natCast_pow]
  exact Int.ofNat_le.mpr (Nat.le_self_pow (by omega) b)
theorem r_abs {a : Int} {u : Tok} {Q : Value → Shared → Prop} (k : ∀ u t', Q (.int a.natAbs u) ⟨h, g, d, t', os⟩) : wpAny (model prog w) A (call (.builtin "abs") [.int a u]) Q E ⟨h, g, d, t, os⟩ :=
  call_abs_int (s := ⟨h, g, d, t, os⟩) fun u t' => by
    have e : (if a < 0 then -a else a) = (a.natAbs : Int) := by split <;> omega
    rw [e]; exact k u t'
theorem r_strInt {a : Int} {u : Tok} {Q : Value → Shared → Prop} (ha : a.natAbs.log2 < 1920) (k : ∀ u t', Q (.str (Str.ofString (toString a)) u) ⟨h, g, d, t', os⟩) : wpAny (model prog w) A (call (.type "str") [.int a u]) Q E ⟨h, g, d, t, os⟩ :=
  P.str_of_int (s := ⟨h, g, d, t, os⟩) ha (k _ _)
theorem r_cwT {pos : Pos} {T : String} {e : Expr} {rest : List Expr} {s : Shared} {Q : Value → Shared → Prop}
    (he : starEach (e :: rest) env = (false, eval e env) :: starEach rest env) (hp : (backTo pos (starEach rest env)).any (·.1) = false)
    (k : wpAny M A (spliced (backTo pos (starEach (e :: rest) env))) (fun vs s₁ => wpAny M A (call (.type T) vs) Q E s₁) E s) :
    wpAny M A (callWith pos (.type T) [] (backTo pos (starEach (e :: rest) env)) []) Q E s := PyProof.Rows.callWith_type1 k he hp
theorem r_range1 {n : Int} {u : Tok} {Q : Value → Shared → Prop} (G : Lg h₀ L h m news) (k : ∀ r h' t' u₁ u₂, Lg h₀ L h' m ((r, rgObj 0 n 1 u₁ u u₂) :: news) → Q (.ref r) ⟨h', g, d, t', os⟩) : wpAny (model prog w) A (call (.type "range") [.int n u]) Q E ⟨h, g, d, t, os⟩ :=
  call_range_1 (s := ⟨h, g, d, t, os⟩) (k _ _ _ _ _ (G.push _))
theorem r_range3 {a b c : Int} {u v x : Tok} {Q : Value → Shared → Prop} (G : Lg h₀ L h m news) (hc : c ≠ 0) (hd : Builtin.divisionGoesByPylong (b - a) c = false) (k : ∀ r h', Lg h₀ L h' m ((r, rgObj a b c u v x) :: news) → Q (.ref r) ⟨h', g, d, t, os⟩) : wpAny (model prog w) A (call (.type "range") [.int a u, .int b v, .int c x]) Q E ⟨h, g, d, t, os⟩ :=
  call_range_3 (s := ⟨h, g, d, t, os⟩) hc (k _ _ (G.push _)) (Or.inl hd)
theorem r_listRange {r : Addr} {b : Int} {n : Nat} {t₁ t₂ t₃ : Tok} {Q : Value → Shared → Prop} (ha : Ar A env outer dn un) (G : Lg h₀ L h m news) (hr : (r, rgObj 0 b 1 t₁ t₂ t₃) ∈ news) (hsm : Builtin.Range.small 0 b 1 = true) (hn : Builtin.Range.rangeSize 0 b 1 = (n : Int)) (hz : n ≤ 2 ^ 24)
    (k : ∀ (D : Addr) (vs : List Value) (c : Nat) h' t', Lg h₀ L h' m ((D, listOf vs.toArray c) :: news) → vs.length = n → (∀ (i : Nat) (v : Value), vs[i]? = some v → ∃ u, v = Value.int (i : Int) u) → Q (.ref D) ⟨h', g, d, t', os⟩) : wpAny (model prog w) A (call (.type "list") [.ref r]) Q E ⟨h, g, d, t, os⟩ := by
  refine call_list_range (s := ⟨h, g, d, t, os⟩) ha.hd (G.get hr) hsm hn hz fun h' tk acc c' kp hg it => ?_
  obtain ⟨vs, rfl⟩ : ∃ vs : List Value, acc = vs.toArray := ⟨acc.toList, by simp⟩
  have G' : Lg h₀ L h' m ((h.objs.size, listOf vs.toArray c') :: news) := by
    have G1 := G.push (default : Obj)
    have G2 := G.keeps kp
    refine G2.more G2.fr ?_ (fun p hp => Heap.lt_size (G.nw p hp).1)
    intro p hp
    rcases List.mem_cons.mp hp with rfl | hp
    · exact ⟨hg, (Nat.ne_of_lt G.fr.ns.lt).symm, next_is_new G.fr⟩
    · exact G2.nw p hp
  refine k _ vs c' h' tk G' ?_ ?_
  · have := it.1; simpa using this
  · intro i v hv
    obtain ⟨u, e⟩ := it.2 i v (by simpa using hv)
    exact ⟨u, by rw [e]; simp⟩
-- texts
theorem r_slNS {value slice : Expr} {x : Str} {u uj : Tok} {j : Int} {Q : Value → Shared → Prop} (G : Lg h₀ L h m news)
    (hs : subscripted slice false (.str x u) (.ref h.objs.size) = operate [.ref h.objs.size, .str x u] (getItem (.str x u) (.ref h.objs.size))) (ht : ∀ r, letTemporaryGo value (.str x u) r = pure ()) (hz : x.length ≤ sizeLine)
    (k : ∀ h' u' t', Lg h₀ L h' m news → Q (.str (Txt.slice x none (some j)) u') ⟨h', g, d, t', os⟩) :
    wpAny (model prog w) A (subscriptTail value slice (.str x u) (.ref h.objs.size)) Q E ⟨h.push { cls := .type "slice", data := .fields #[.none, .int j uj, .none] }, g, d, t, os⟩ :=
  slice_strN_ns (s := ⟨h, g, d, t, os⟩) G.fr G.nw (fun h' u' t' F N => k h' u' t' ⟨F, N, G.nd⟩) hs ht hz
theorem r_slSN {value slice : Expr} {x : Str} {u uj : Tok} {j : Int} {Q : Value → Shared → Prop} (G : Lg h₀ L h m news)
    (hs : subscripted slice false (.str x u) (.ref h.objs.size) = operate [.ref h.objs.size, .str x u] (getItem (.str x u) (.ref h.objs.size))) (ht : ∀ r, letTemporaryGo value (.str x u) r = pure ()) (hz : x.length ≤ sizeLine)
    (k : ∀ h' u' t', Lg h₀ L h' m news → Q (.str (Txt.slice x (some j) none) u') ⟨h', g, d, t', os⟩) :
    wpAny (model prog w) A (subscriptTail value slice (.str x u) (.ref h.objs.size)) Q E ⟨h.push { cls := .type "slice", data := .fields #[.int j uj, .none, .none] }, g, d, t, os⟩ :=
  slice_strN_sn (s := ⟨h, g, d, t, os⟩) G.fr G.nw (fun h' u' t' F N => k h' u' t' ⟨F, N, G.nd⟩) hs ht hz
/-- the first so many of a list -/
theorem r_slList {value slice : Expr} {l : Addr} {vs : List Value} {n : Nat} {uj : Tok} {j : Int} {Q : Value → Shared → Prop} (G : Lg h₀ L h m news) (hm : (l, listOf vs.toArray n) ∈ news) (hj : 0 ≤ j)
    (hs : subscripted slice false (.ref l) (.ref h.objs.size) = operate [.ref h.objs.size, .ref l] (getItem (.ref l) (.ref h.objs.size))) (ht : ∀ r, letTemporaryGo value (.ref l) r = pure ()) (hz : vs.length ≤ sizeLine)
    (k : ∀ D h', Lg h₀ L h' m ((D, listOf (vs.take j.toNat).toArray 0) :: news) → Q (.ref D) ⟨h', g, d, t, os⟩) :
    wpAny (model prog w) A (subscriptTail value slice (.ref l) (.ref h.objs.size)) Q E ⟨h.push { cls := .type "slice", data := .fields #[.none, .int j uj, .none] }, g, d, t, os⟩ := by
  refine kmk_slice (s := ⟨h, g, d, t, os⟩) (lo := none) (hi := some j) G.fr G.nw ⟨_, G.get hm, rfl, n, rfl⟩ .none (.int _ _) (fun D h' F N lt => ?_) hs ht (by simpa using hz)
  have e : slicePick vs.toArray none (some j) none = (vs.take j.toNat).toArray := by
    have ej : j = (j.toNat : Int) := by omega
    have q := PySem.slicePick_upto' vs.toArray j.toNat
    rw [← ej] at q
    rw [q]
  rw [e] at N
  exact k D h' (G.more F N lt)

-- comparisons, membership
theorem r_eqStr {x y : Str} {u v : Tok} {s : Shared} {Q : Value → Shared → Prop} (k : Q (.bool (x == y)) s) : wpAny (model prog w) A (compareOp .Eq (.str x u) (.str y v)) Q E s := eq_str k
theorem r_neStr {x y : Str} {u v : Tok} {s : Shared} {Q : Value → Shared → Prop} (k : Q (.bool (x != y)) s) : wpAny (model prog w) A (compareOp .NotEq (.str x u) (.str y v)) Q E s := ne_str k
theorem r_inStr {x y : Str} {u v : Tok} {s : Shared} {Q : Value → Shared → Prop} (k : Q (.bool !(Builtin.Str.occurrences x y 0 x.length 1).isEmpty) s) : wpAny (model prog w) A (compareOp .In (.str y u) (.str x v)) Q E s := in_str k
theorem r_addStr {x y : Str} {u v : Tok} {Q : Value → Shared → Prop} (hz : x.length + y.length ≤ sizeLine) (k : ∀ u t', Q (.str (x ++ y) u) ⟨h, g, d, t', os⟩) : wpAny (model prog w) A (binaryOp .Add (.str x u) (.str y v)) Q E ⟨h, g, d, t, os⟩ := add_str (s := ⟨h, g, d, t, os⟩) (fun u t' => k u t') hz
noncomputable abbrev tupOf (vs : List Value) : Obj := { cls := .type "tuple", data := .seq vs.toArray }
theorem r_inTupS {D : Addr} {vs : List Value} {ys : List Str} {x : Str} {u : Tok} {Q : Value → Shared → Prop} (G : Lg h₀ L h m news) (hm : (D, tupOf vs) ∈ news) (hi : StrsAre vs ys)
    (k : Q (.bool (ys.any (· == x))) ⟨h, g, d, t, os⟩) : wpAny (model prog w) A (compareOp .In (.str x u) (.ref D)) Q E ⟨h, g, d, t, os⟩ :=
  in_tuple_strs (s := ⟨h, g, d, t, os⟩) ⟨_, G.get hm, rfl, _, rfl⟩ hi k
theorem r_inTupKI {D : Addr} {vs : List Value} {ns : List Int} {x : Int} {u : Tok} {n : Nat} {dd : Option Addr} {sl : Array (Option Value)} {Q : Value → Shared → Prop} (G : Lg h₀ L h m news) (X : Gr K p loose mean mg mb A₀ base outer h₀) (hm : K.lookup D = some ⟨.type "tuple", dd, .seq vs.toArray n, sl⟩) (hi : IntsAre vs ns)
    (k : Q (.bool (ns.any (· == x))) ⟨h, g, d, t, os⟩) : wpAny (model prog w) A (compareOp .In (.int x u) (.ref D)) Q E ⟨h, g, d, t, os⟩ :=
  in_tuple_ints (s := ⟨h, g, d, t, os⟩) ⟨_, (X.x.keeps G.fr.keep) _ _ hm, rfl, _, rfl⟩ hi k
theorem r_eqInts {a b : Addr} {xs ys : List Value} {ns ms : List Int} {i j : Nat} {Q : Value → Shared → Prop} (ha : Ar A env outer dn un) (hu : 64 ≤ un) (G : Lg h₀ L h m news) (h1 : (a, listOf xs.toArray i) ∈ news) (h2 : (b, listOf ys.toArray j) ∈ news) (hi : IntsAre xs ns) (hj : IntsAre ys ms)
    (k : Q (.bool (decide (ns = ms))) ⟨h, g, d, t, os⟩) : wpAny (model prog w) A (compareOp .Eq (.ref a) (.ref b)) Q E ⟨h, g, d, t, os⟩ :=
  ke_eq_ints (s := ⟨h, g, d, t, os⟩) ⟨_, G.get h1, rfl, _, rfl⟩ ⟨_, G.get h2, rfl, _, rfl⟩ hi hj (ha.line hu) k
theorem r_neInts {a b : Addr} {xs ys : List Value} {ns ms : List Int} {i j : Nat} {Q : Value → Shared → Prop} (ha : Ar A env outer dn un) (hu : 64 ≤ un) (G : Lg h₀ L h m news) (h1 : (a, listOf xs.toArray i) ∈ news) (h2 : (b, listOf ys.toArray j) ∈ news) (hi : IntsAre xs ns) (hj : IntsAre ys ms)
    (k : Q (.bool (!decide (ns = ms))) ⟨h, g, d, t, os⟩) : wpAny (model prog w) A (compareOp .NotEq (.ref a) (.ref b)) Q E ⟨h, g, d, t, os⟩ :=
  ke_ne_ints (s := ⟨h, g, d, t, os⟩) ⟨_, G.get h1, rfl, _, rfl⟩ ⟨_, G.get h2, rfl, _, rfl⟩ hi hj (ha.line hu) k
theorem r_all {D : Addr} {vs : List Value} {bs : List Bool} {n : Nat} {Q : Value → Shared → Prop} (ha : Ar A env outer dn un) (G : Lg h₀ L h m news) (hm : (D, listOf vs.toArray n) ∈ news) (hi : LSm.BoolsAre vs bs)
    (k : ∀ h' t', Lg h₀ L h' m news → Q (.bool (bs.all id)) ⟨h', g, d, t', os⟩) : wpAny (model prog w) A (call (.builtin "all") [.ref D]) Q E ⟨h, g, d, t, os⟩ :=
  LSm.all_bools (s := ⟨h, g, d, t, os⟩) G.fr G.nw ha.hd ⟨_, G.get hm, rfl, _, rfl⟩ hi fun h' t' F N => k h' t' ⟨F, N, G.nd⟩
theorem r_isTupW {tp : Addr} {x C : Addr} {es : List DictEntry} {its : List Value} {n : Nat} {b : Bool} {Q : Value → Shared → Prop} (G : Lg h₀ L h m news) (X : Gr K p loose mean mg mb A₀ base outer h₀) (I : InsIn K news x C es) (ok : IOk K C) (hm : (tp, ({ cls := .type "tuple", data := .seq its.toArray n } : Obj)) ∈ news) (e : kitAny K (.ref C) its = some b)
    (k : ∀ t', Q (.bool b) ⟨h, g, d, t', os⟩) : wpAny (model prog w) A (call (.builtin "isinstance") [.ref x, .ref tp]) Q E ⟨h, g, d, t, os⟩ := by
  obtain ⟨ox, n', I⟩ := I.inst X.x G
  exact kia_tup (s := ⟨h, g, d, t, os⟩) (kitx_own ok.g ok.d ok.a ok.n ok.t ok.m) (X.x.keeps G.fr.keep) I (G.get hm) e (by intro q; cases q) k
-- text's methods
theorem r_lower {x y : Str} {u : Tok} {Q : Value → Shared → Prop} (e : Txt.lower x = y) (hz : Builtin.Str.tooLong (Txt.lower x).length = false) (k : ∀ u t', Q (.str y u) ⟨h, g, d, t', os⟩) : wpAny (model prog w) A (call (.builtin "str.lower") [.str x u]) Q E ⟨h, g, d, t, os⟩ :=
  KXw.lower (s := ⟨h, g, d, t, os⟩) e hz k
theorem r_find {x z : Str} {u v : Tok} {i : Int} {Q : Value → Shared → Prop} (e : Txt.find x z = i) (k : ∀ u t', Q (.int i u) ⟨h, g, d, t', os⟩) : wpAny (model prog w) A (call (.builtin "str.find") [.str x u, .str z v]) Q E ⟨h, g, d, t, os⟩ :=
  KXw.find (s := ⟨h, g, d, t, os⟩) e k
theorem r_partition {x y p q r : Str} {u v : Tok} {Q : Value → Shared → Prop} (G : Lg h₀ L h m news) (hy : (y.length == 0) = false) (e1 : (Txt.partition x y).1 = p) (e2 : (Txt.partition x y).2.1 = q) (e3 : (Txt.partition x y).2.2 = r) (hz : x.length ≤ sizeLine)
    (k : ∀ D ta tb tc h' t', Lg h₀ L h' m ((D, tupOf [.str p ta, .str q tb, .str r tc]) :: news) → Q (.ref D) ⟨h', g, d, t', os⟩) : wpAny (model prog w) A (call (.builtin "str.partition") [.str x u, .str y v]) Q E ⟨h, g, d, t, os⟩ :=
  KXpa.partition (s := ⟨h, g, d, t, os⟩) G.fr G.nw hy e1 e2 e3 hz fun D ta tb tc h' t' F N lt => k D ta tb tc h' t' (G.more F N lt)
theorem r_join {x : Str} {u : Tok} {D : Addr} {l : List (Str × Tok)} {texts : List Str} {n : Nat} {Q : Value → Shared → Prop} (G : Lg h₀ L h m news) (hm : (D, listOf (strValues l).toArray n) ∈ news) (ht : l.map (·.1) = texts) (hok : JoinOk x texts = true)
    (k : ∀ u t', Q (.str (Txt.join x texts) u) ⟨h, g, d, t', os⟩) : wpAny (model prog w) A (call (.builtin "str.join") [.str x u, .ref D]) Q E ⟨h, g, d, t, os⟩ :=
  SC.join (s := ⟨h, g, d, t, os⟩) ⟨_, G.get hm, rfl, n, rfl⟩ ht hok k
-- the first turn over a text
theorem r_strIter {x : Str} {u : Tok} {Q : Value → Shared → Prop} (G : Lg h₀ L h m news) (ha : x.cps.all (· < 128) = true) (k : ∀ I o h', o.cls = .type "str_ascii_iterator" → Heap.IsStrIter h' I "str_ascii_iterator" x u 0 → Lg h₀ L h' m ((I, o) :: news) → Q (.ref I) ⟨h', g, d, t, os⟩) :
    wpAny (model prog w) A (pyIter (.str x u)) Q E ⟨h, g, d, t, os⟩ :=
  wpAny_pyIter_ascii (s := ⟨h, g, d, t, os⟩) ha (k _ _ _ rfl ⟨_, Heap.get?_push_size _ rfl, rfl, rfl⟩ (G.push _))
theorem r_sturn {x : Str} {px body} {Q : Flow → Shared → Prop} {I : Addr} {o : Obj} {y : Str} {u : Tok} {i c : Nat} (G : Lg h₀ L h m ((I, o) :: news)) (st : Heap.IsStrIter h I "str_ascii_iterator" y u i) (hc : y.cps[i]? = some c)
    (hk : cs.kind = .function) (hx : (envX cn cs L D ccd cl).kindOf x = some .local)
    (k : ∀ h' t' u, Lg h₀ L h' (fun z => if z = x then some (.str ⟨#[c]⟩ u) else m z) news → wpAny (model prog w) A (execs body (envX cn cs L D ccd cl)) (FoQ prog w A (envX cn cs L D ccd cl) x px body Q I) (fun _ _ => False) ⟨h', g, d, t', os⟩) :
    FoR prog w A (envX cn cs L D ccd cl) x px body Q I ⟨h, g, d, t, os⟩ := by
  refine r_fturn (wpAny_pyNext_ascii_item (s := ⟨h, g, d, t, os⟩) st hc fun h' st' hs => ?_)
  obtain ⟨o', ho', _⟩ := st'
  exact r_store (G.put .head hs ho').tail hk hx fun h'' t' G' => k h'' t' _ G'
-- unpacking
theorem r_unpack {elts : List Expr} {k0 : Nat} {pos : Pos} {vs : List Value} {Q : Unit → Shared → Prop} (ha : Ar A env outer dn un) (G : Lg h₀ L h m news) (hm : (D, tupOf vs) ∈ news)
    (hn : (assignEach elts env).length = vs.length) (hst : (assignEach elts env).findIdx? (·.1) = none)
    (k : ∀ h', Lg h₀ L h' m news → wpAny (model prog w) A (assignInOrder ((assignEach elts env).map (·.2)) vs) Q E ⟨h', g, d, t, os⟩) :
    wpAny (model prog w) A (assign (.Tuple elts k0 pos) env (.ref D)) Q E ⟨h, g, d, t, os⟩ :=
  wpAny_assign_Tuple (s := ⟨h, g, d, t, os⟩) ha.hd ⟨_, G.get hm, rfl, _, rfl⟩ (by simpa using hn) hst fun h' hb => by
    simpa using k h' (G.keeps fun b o e => hb b o (Nat.ne_of_lt (Heap.lt_size e)) e)
theorem r_unpackI {n : Nat} {vs : List Value} {Q : List Value → Shared → Prop} (ha : Ar A env outer dn un) (G : Lg h₀ L h m news) (hm : (D, tupOf vs) ∈ news) (hn : n = vs.length)
    (k : ∀ h', Lg h₀ L h' m news → Q vs ⟨h', g, d, t, os⟩) : wpAny (model prog w) A (unpackItems (.ref D) n none) Q E ⟨h, g, d, t, os⟩ := by
  subst hn
  have q := wpAny_unpackItems_tuple (prog := prog) (w := w) (A := A) (E := E) (s := ⟨h, g, d, t, os⟩) (t := D) (items := vs.toArray) (Q := Q) ha.hd ⟨_, G.get hm, rfl, _, rfl⟩ fun h' hb => by
    simpa using k h' (G.keeps fun b o e => hb b o (Nat.ne_of_lt (Heap.lt_size e)) e)
  simpa using q
-- lists
theorem r_setItem {vs : List Value} {n : Nat} {i : Int} {u : Tok} {v : Value} {Q : Unit → Shared → Prop} (G : Lg h₀ L h m news) (U : PutF D (listOf vs.toArray n) news f) (h0 : 0 ≤ i) (h1 : i < 2 ^ 63) (h2 : i < vs.length)
    (k : ∀ n' h', Lg h₀ L h' m (f (listOf (vs.set i.toNat v).toArray n')) → Q () ⟨h', g, d, t, os⟩) : wpAny (model prog w) A (setItem (.ref D) (.int i u) v) Q E ⟨h, g, d, t, os⟩ := by
  have ho := G.get (U.put default).mem
  have hT : (⟨h, g, d, t, os⟩ : Shared).TypeIs (.ref D) "list" := ⟨_, ho, rfl⟩
  unfold setItem
  try with_reducible refine wpAny_holding ?_
  first | refine wpAny_bind (wpAny_pure ?_) | skip
  refine wpAny_bind (wpAny_sequenceKey hT (by decide) ?_)
  refine wpAny_bind (wpAny_callSpecial?_slot (name := Str.ofString "__setitem__") hT slot_list_setitem
    (wpAny_call_entry slot_list_setitem hT entry_list_setitem ?_ (args_list_setitem _ _ _)))
  show wpAny _ _ (Builtin.List.listSubscript? (.int i u) >>= _) _ _ _
  refine wpAny_bind (wpAny_listSubscript_int (fitsIndex_of h0 h1) ?_)
  clear h1
  obtain ⟨j, rfl⟩ := Int.eq_ofNat_of_zero_le h0
  have hj : j < vs.length := by omega
  have hx' : vs.toArray[j]? = some vs[j] := by simp [hj]
  show wpAny _ _ ((seqItemAt D j >>= fun r => pure (r.map (j, ·))) >>= _) _ _ _
  refine wpAny_bind (wpAny_bind (wpAny_seqItemAt ho rfl (wpAny_pure ?_)))
  rw [hx']
  show wpAny _ _ (setSeqItemAt D j v >>= _) _ _ _
  obtain ⟨n', G'⟩ := G.turn (vs' := vs.set j v) (fun x => x.setIfInBounds j v) (by simp) U
  refine wpAny_bind (wpAny_setSeqItemAt ho rfl ?_)
  first
    | exact wpAny_bind (wpAny_pure (wpAny_pure ⟨.none, rfl, wpAny_pure (k n' _ G')⟩))
    | exact wpAny_pure ⟨.none, rfl, wpAny_pure (k n' _ G')⟩

-- dicts with text keys
noncomputable abbrev KD (prog : Program) (w : World) (o : Obj) (kvs : List (Str × Value)) : Prop := o.IsDictOf (PySem.strKind prog w) kvs
theorem r_dget {o : Obj} {kvs : List (Str × Value)} {x : Str} {u : Tok} {v : Value} {Q : Value → Shared → Prop} (G : Lg h₀ L h m news) (X : Gr K p loose mean mg mb A₀ base outer h₀) (hm : (D, o) ∈ news) (hd : KD prog w o kvs) (low : (D == sysModules) = false)
    (k : Q ((valueAt kvs x).getD v) ⟨h, g, d, t + 1, os⟩) : wpAny (model prog w) A (call (.builtin "dict.get") [.ref D, .str x u, v]) Q E ⟨h, g, d, t, os⟩ := by
  have hD := Heap.dictOf_iff.mpr ⟨_, G.get hm, hd⟩
  exact call_meetsIn (s := ⟨h, g, d, t, os⟩) PySem.F.slot_dict_get hD.typeIs PySem.F.entry_dict_get (PySem.F.args_dict_get_3 _ _ _) (meets_dict_get_default (PySem.strKind prog w) D (strKind_is prog w x u) low v) ⟨_, hD.mapOf, k⟩
theorem r_dset {o : Obj} {kvs : List (Str × Value)} {x : Str} {u : Tok} {v : Value} {Q : Unit → Shared → Prop} (G : Lg h₀ L h m news) (U : PutF D o news f) (hd : KD prog w o kvs) (hz : kvs.length ≤ sizeLine)
    (k : ∀ o' h' t', Lg h₀ L h' m (f o') → KD prog w o' (stored kvs x v) → Q () ⟨h', g, d, t', os⟩) : wpAny (model prog w) A (setItem (.ref D) (.str x u) v) Q E ⟨h, g, d, t, os⟩ := by
  refine wpAny_setItem_pairs (s := ⟨h, g, d, t, os⟩) (knd := PySem.strKind prog w) (k := x) (strKind_is prog w x u) (Heap.dictOf_iff.mpr ⟨_, G.get (U.put default).mem, hd⟩) (fun h' hm hs => ?_) hz
  obtain ⟨o', ho', hd'⟩ := Heap.dictOf_iff.mp hm
  exact k o' h' _ (G.put (U.put _) hs ho') hd'
theorem r_dict {keys : List (Option Expr)} {values : List Expr} {pos : Pos} {pairs : List (Sem Value × Sem Value)} {Q : Value → Shared → Prop} (G : Lg h₀ L h m news) (X : Gr K p loose mean mg mb A₀ base outer h₀)
    (hs : (evalEachOpt keys env).zip ((evalEach values env).map fun v => do let x ← v; standAt pos; pure x) = pairs.map fun p => (some p.1, p.2)) (h0 : pairs ≠ []) (hl : pairs.length ≤ 15)
    (k : ∀ D h', Lg h₀ L h' m ((D, emptyDict) :: news) → (∀ p ∈ news, p.1 < D) → (D == sysModules) = false → wpAny (model prog w) A (evalPairs pairs) (fun vs s₁ => ∃ kvs, Carries (PySem.strKind prog w) vs kvs ∧ s₁.heap.DictOf (PySem.strKind prog w) D [] ∧
      ∀ h', h'.DictOf (PySem.strKind prog w) D (merged [] kvs) → Heap.SameBut D s₁.heap h' → Q (.ref D) { s₁ with heap := h', toks := s₁.toks + vs.length }) E ⟨h', g, d, t, os⟩) :
    wpAny (model prog w) A (eval (.Dict keys values pos) env) Q E ⟨h, g, d, t, os⟩ :=
  wpAny_Dict_pairs (s := ⟨h, g, d, t, os⟩) (knd := PySem.strKind prog w) hs h0 hl (k _ _ (G.push emptyDict) (fun p hp => G.lt hp) (G.fr.notModules (modules_low X.t.nolimit)))
theorem r_dpair {k v : Sem Value} {rest : List (Sem Value × Sem Value)} {s : Shared} {Q : List (Value × Value) → Shared → Prop}
    (q : wpAny (model prog w) A k (fun kv s₁ => wpAny (model prog w) A v (fun vv s₂ => wpAny (model prog w) A (evalPairs rest) (fun vs s₃ => Q ((kv, vv) :: vs) s₃) E s₂) E s₁) E s) :
    wpAny (model prog w) A (evalPairs ((k, v) :: rest)) Q E s := evalPairs_cons q
theorem r_dpairs {s : Shared} {Q : List (Value × Value) → Shared → Prop} (q : Q [] s) : wpAny (model prog w) A (evalPairs []) Q E s := evalPairs_nil q
theorem r_dend {vs : List (Value × Value)} {kvs : List (Str × Value)} {Q : Value → Shared → Prop} (G : Lg h₀ L h m news) (U : PutF D emptyDict news f) (hc : Carries (PySem.strKind prog w) vs kvs)
    (k : ∀ o h' t', Lg h₀ L h' m (f o) → KD prog w o (merged [] kvs) → Q (.ref D) ⟨h', g, d, t', os⟩) :
    ∃ kvs, Carries (PySem.strKind prog w) vs kvs ∧ (⟨h, g, d, t, os⟩ : Shared).heap.DictOf (PySem.strKind prog w) D [] ∧ ∀ h', h'.DictOf (PySem.strKind prog w) D (merged [] kvs) → Heap.SameBut D (⟨h, g, d, t, os⟩ : Shared).heap h' →
      Q (.ref D) { (⟨h, g, d, t, os⟩ : Shared) with heap := h', toks := (⟨h, g, d, t, os⟩ : Shared).toks + vs.length } := by
  refine ⟨kvs, hc, ?_, fun h' hm hs => ?_⟩
  · obtain ⟨o, ho, hd⟩ := Heap.dictOf_iff.mp (Heap.DictOf.new (knd := PySem.strKind prog w) h)
    rw [Heap.get?_push_size _ rfl] at ho
    have e := Option.some.inj ho
    subst e
    exact Heap.dictOf_iff.mpr ⟨_, G.get (U.put default).mem, hd⟩
  · obtain ⟨o', ho', hd'⟩ := Heap.dictOf_iff.mp hm
    exact k o' h' _ (G.put (U.put _) hs ho') hd'
theorem r_dgetK {n : Nat} {es : Array DictEntry} {x : Str} {u : Tok} {v : Value} {Q : Value → Shared → Prop} (G : Lg h₀ L h m news) (X : Gr K p loose mean mg mb A₀ base outer h₀) (hl : K.lookup D = some ⟨.type "dict", none, .dict es n, #[]⟩) (hk : KeysLit w.params es.toList) (low : (D == sysModules) = false)
    (k : Q ((findBy Value.isStrOf es x).getD v) ⟨h, g, d, t + 1, os⟩) : wpAny (model prog w) A (call (.builtin "dict.get") [.ref D, .str x u, v]) Q E ⟨h, g, d, t, os⟩ := by
  have hD := mapOf_K (prog := prog) (w := w) (X.x.keeps G.fr.keep) hl hk
  exact call_meetsIn (s := ⟨h, g, d, t, os⟩) PySem.F.slot_dict_get hD.typeIs PySem.F.entry_dict_get (PySem.F.args_dict_get_3 _ _ _) (meets_dict_get_default (PySem.strKind prog w) D (strKind_is prog w x u) low v) ⟨_, hD, k⟩
-- f-strings
theorem r_joined {v₁ v₂ : Expr} {rest : List Expr} {pos : Pos} {s : Shared} {Q : Value → Shared → Prop}
    (k : wpAny (model prog w) A (joinParts Str.empty (eval v₁ env :: eval v₂ env :: evalEach rest env)) Q E s) : wpAny (model prog w) A (eval (.JoinedStr (v₁ :: v₂ :: rest) pos) env) Q E s := JoinedStr_many k
theorem r_jpart {out : Str} {x : Sem Value} {rest : List (Sem Value)} {s : Shared} {Q : Value → Shared → Prop}
    (k : wpAny (model prog w) A x (fun v s₁ => ∃ y u, v = .str y u ∧ (out ++ y).length ≤ sizeLine ∧ wpAny (model prog w) A (joinParts (out ++ y) rest) Q E s₁) E s) : wpAny (model prog w) A (joinParts out (x :: rest)) Q E s :=
  joinParts_cons (wpAny_mono k (fun v s₁ z => by obtain ⟨y, u, rfl, a, b⟩ := z; exact ⟨a, b⟩) fun _ _ e => e)
theorem r_jnil {out : Str} {Q : Value → Shared → Prop} (hz : out.length ≤ sizeLine) (k : ∀ u t', Q (.str out u) ⟨h, g, d, t', os⟩) : wpAny (model prog w) A (joinParts out (evalEach [] env)) Q E ⟨h, g, d, t, os⟩ :=
  joinParts_nil (s := ⟨h, g, d, t, os⟩) (k _ _) hz
theorem r_fmt {value : Expr} {pos : Pos} {s : Shared} {Q : Value → Shared → Prop} (k : wpAny (model prog w) A (eval value env) (fun v s₁ => wpAny (model prog w) A (formatField v Str.empty) Q E s₁) E s) : wpAny (model prog w) A (eval (.FormattedValue value (-1) none pos) env) Q E s := FormattedValue_plain k
theorem r_fmtInt {i : Int} {u : Tok} {Q : Value → Shared → Prop} (hi : i.natAbs.log2 < 1920) (k : ∀ u t', Q (.str (Str.ofString (toString i)) u) ⟨h, g, d, t', os⟩) : wpAny (model prog w) A (formatField (.int i u) Str.empty) Q E ⟨h, g, d, t, os⟩ :=
  formatField_int_small (s := ⟨h, g, d, t, os⟩) hi (k _ _)
end
section
variable {prog : Program} {w : World} {A : Around} {E : Value → Shared → Prop} {K : Frag} {p : Program} {loose : List Str} {mean : ExcName → Option Value} {mg mb : Str → Option Value} {A₀ : Around} {base h₀ h hh : Heap} {outer : List Env} {L a : Addr} {m : Str → Option Value} {news news' news'' : List (Addr × Obj)} {D : Addr} {f : Obj → List (Addr × Obj)}
  {g : Array GenState} {d : Drawn} {t tt dn un dn' un' : Nat} {os : OsState} {cn : Str} {cs : Scope} {ccd : Value} {cl : List (Str × Addr)} {env : Env} {M : Model}

/-- a contract taken -/
theorem use {f : Value} {vs : List Value} {post : Value → List (Addr × Obj) → Prop} {Q : Value → Shared → Prop} (S : Sp prog w K p loose mean mg mb f vs dn un news post)
    (k : ∀ v news' h' t', post v news' → Lg h₀ L h' m news' → Q v ⟨h', g, d, t', os⟩) (G : Lg h₀ L h m news := by assumption) (a : Ar A env outer dn' un' := by assumption) (X : Gr K p loose mean mg mb A₀ base outer h₀ := by assumption)
    (h1 : dn ≤ dn' := by decide) (h2 : un ≤ un' := by decide) (hf : env.frame = some L := by rfl) (hk : env.scope.kind = .function := by rfl) : wpAny (model prog w) A (call f vs) Q E ⟨h, g, d, t, os⟩ := S.use a h1 h2 hf hk X G k

theorem Lg.suf {gs : List (Addr × Obj)} (G : Lg h₀ L h m (gs ++ news)) : Lg h₀ L h m news := G.sub (fun _ hp => List.mem_append_right _ hp) (by have := G.nd; rw [List.map_append] at this; exact (List.nodup_append.mp this).2.1)
theorem r_backS {post : Value → List (Addr × Obj) → Prop} {v : Value} (G : Lg h₀ L h m news') (k : post v news) (s : ∃ gs, news' = gs ++ news) : Back h₀ L g d os post (.ret v) ⟨h, g, d, t, os⟩ := by
  obtain ⟨gs, rfl⟩ := s
  exact r_back G.suf k
theorem r_backS0 {post : Value → List (Addr × Obj) → Prop} (G : Lg h₀ L h m news') (k : post .none news) (s : ∃ gs, news' = gs ++ news) : Back h₀ L g d os post .next ⟨h, g, d, t, os⟩ := by
  obtain ⟨gs, rfl⟩ := s
  exact r_back0 G.suf k
theorem suf_refl {l : List (Addr × Obj)} : ∃ gs, l = gs ++ l := ⟨[], rfl⟩
theorem suf_cons {p : Addr × Obj} {l r : List (Addr × Obj)} (s : ∃ gs, l = gs ++ r) : ∃ gs, p :: l = gs ++ r := by
  obtain ⟨gs, rfl⟩ := s
  exact ⟨p :: gs, rfl⟩
theorem suf_app {l l' r : List (Addr × Obj)} (s : ∃ gs, l = gs ++ r) : ∃ gs, l' ++ l = gs ++ r := by
  obtain ⟨gs, rfl⟩ := s
  exact ⟨l' ++ gs, by simp⟩

theorem r_unp3 {x1 x2 x3 : Str} {p1 p2 p3 : Pos} {k0 : Nat} {pos : Pos} {v1 v2 v3 : Value} {Q : Unit → Shared → Prop} (ha : Ar A env outer dn un) (G : Lg h₀ L h m news) (hm : (D, tupOf [v1, v2, v3]) ∈ news)
    (k : ∀ h', Lg h₀ L h' m news → wpAny (model prog w) A (storeName env x1 v1) (fun _ s1 => wpAny (model prog w) A (storeName env x2 v2) (fun _ s2 => wpAny (model prog w) A (storeName env x3 v3) Q E s2) E s1) E ⟨h', g, d, t, os⟩) :
    wpAny (model prog w) A (assign (.Tuple [.Name x1 p1, .Name x2 p2, .Name x3 p3] k0 pos) env (.ref D)) Q E ⟨h, g, d, t, os⟩ := by
  refine r_unpack ha G hm rfl rfl fun h' G => ?_
  show wpAny _ _ (assignInOrder [assign (.Name x1 p1) env, assign (.Name x2 p2) env, assign (.Name x3 p3) env] [v1, v2, v3]) _ _ _
  refine assignInOrder_cons (wpAny_assign_Name (wpAny_mono (k h' G) (fun _ s1 k => ?_) fun _ _ e => e))
  refine assignInOrder_cons (wpAny_assign_Name (wpAny_mono k (fun _ s2 k => ?_) fun _ _ e => e))
  exact assignInOrder_cons (wpAny_assign_Name (wpAny_mono k (fun _ s3 k => assignInOrder_nil k) fun _ _ e => e))
theorem r_unp2 {x1 x2 : Str} {p1 p2 : Pos} {k0 : Nat} {pos : Pos} {v1 v2 : Value} {Q : Unit → Shared → Prop} (ha : Ar A env outer dn un) (G : Lg h₀ L h m news) (hm : (D, tupOf [v1, v2]) ∈ news)
    (k : ∀ h', Lg h₀ L h' m news → wpAny (model prog w) A (storeName env x1 v1) (fun _ s1 => wpAny (model prog w) A (storeName env x2 v2) Q E s1) E ⟨h', g, d, t, os⟩) :
    wpAny (model prog w) A (assign (.Tuple [.Name x1 p1, .Name x2 p2] k0 pos) env (.ref D)) Q E ⟨h, g, d, t, os⟩ := by
  refine r_unpack ha G hm rfl rfl fun h' G => ?_
  show wpAny _ _ (assignInOrder [assign (.Name x1 p1) env, assign (.Name x2 p2) env] [v1, v2]) _ _ _
  refine assignInOrder_cons (wpAny_assign_Name (wpAny_mono (k h' G) (fun _ s1 k => ?_) fun _ _ e => e))
  exact assignInOrder_cons (wpAny_assign_Name (wpAny_mono k (fun _ s3 k => assignInOrder_nil k) fun _ _ e => e))

theorem Lg.subl (G : Lg h₀ L h m news') (s : news.Sublist news') : Lg h₀ L h m news := G.sub (fun _ hp => s.subset hp) ((s.map (·.1)).nodup G.nd)
theorem r_backL {post : Value → List (Addr × Obj) → Prop} {v : Value} (G : Lg h₀ L h m news') (k : post v news) (s : news.Sublist news') : Back h₀ L g d os post (.ret v) ⟨h, g, d, t, os⟩ := r_back (G.subl s) k
theorem r_backL0 {post : Value → List (Addr × Obj) → Prop} (G : Lg h₀ L h m news') (k : post .none news) (s : news.Sublist news') : Back h₀ L g d os post .next ⟨h, g, d, t, os⟩ := r_back0 (G.subl s) k
theorem ints_get {vs : List Value} {ns : List Int} (h : IntsAre vs ns) : ∀ i, i < ns.length → ∃ c u, vs[i]? = some (.int c u) ∧ ns[i]? = some c := by
  induction h with
  | nil => intro i hi; exact absurd hi (Nat.not_lt_zero _)
  | cons k t r ih =>
    intro i hi
    cases i with
    | zero => exact ⟨k, t, rfl, rfl⟩
    | succ i =>
      obtain ⟨c, u, a, b⟩ := ih i (by simpa using hi)
      exact ⟨c, u, by simpa using a, by simpa using b⟩

theorem r_isNone {v : Value} {s : Shared} {Q : Value → Shared → Prop} (k : Q (.bool (v == .none)) s) : wpAny M A (compareOp .Is v .none) Q E s := is_none_gen k
theorem r_isRefNone {x : Addr} {s : Shared} {Q : Value → Shared → Prop} (k : Q (.bool false) s) : wpAny M A (compareOp .Is (.ref x) .none) Q E s := is_ref_none k
theorem r_isNoneNone {s : Shared} {Q : Value → Shared → Prop} (k : Q (.bool true) s) : wpAny M A (compareOp .Is .none .none) Q E s := is_none_none k
theorem r_isnotNoneNone {s : Shared} {Q : Value → Shared → Prop} (k : Q (.bool false) s) : wpAny M A (compareOp .IsNot .none .none) Q E s := isnot_none_none k

theorem size_up {n : Int} (h : 0 ≤ n) : Builtin.Range.rangeSize 0 n 1 = (n.toNat : Int) := by
  unfold Builtin.Range.rangeSize
  simp
  omega
theorem size_down {n : Nat} : Builtin.Range.rangeSize ((n : Int) - 1) (-1) (-1) = (n : Int) := by
  rw [rangeSize_downNat]; omega

/-- one turn of a loop over a range has ended -/
noncomputable def TurnQ (Q : Flow → Shared → Prop) (h₀ : Heap) (L : Addr) (g : Array GenState) (d : Drawn) (os : OsState) (I : Addr) (oI : Obj) (J : (Str → Option Value) → List (Addr × Obj) → Prop) (fl : Flow) (s : Shared) : Prop := match fl with
  | .next => ∃ h t m news, s = ⟨h, g, d, t, os⟩ ∧ Lg h₀ L h m ((I, oI) :: news) ∧ J m news
  | .cont => ∃ h t m news, s = ⟨h, g, d, t, os⟩ ∧ Lg h₀ L h m ((I, oI) :: news) ∧ J m news
  | .brk => Q .next s
  | .ret v => Q (.ret v) s
theorem r_turned {Q : Flow → Shared → Prop} {I : Addr} {oI : Obj} {J : (Str → Option Value) → List (Addr × Obj) → Prop} (G : Lg h₀ L h m ((I, oI) :: news)) (j : J m news) : TurnQ Q h₀ L g d os I oI J .next ⟨h, g, d, t, os⟩ := ⟨h, t, m, news, rfl, G, j⟩
theorem r_turnret {Q : Flow → Shared → Prop} {I : Addr} {oI : Obj} {J : (Str → Option Value) → List (Addr × Obj) → Prop} {v : Value} {s : Shared} (k : Q (.ret v) s) : TurnQ Q h₀ L g d os I oI J (.ret v) s := k
theorem go_range {x px body} {Q : Flow → Shared → Prop} {a c : Int} {n : Nat} {I : Addr} (J : Nat → (Str → Option Value) → List (Addr × Obj) → Prop) (ha : Ar A (envX cn cs L D ccd cl) outer tt tt)
    (hk : cs.kind = .function) (hx : (envX cn cs L D ccd cl).kindOf x = some .local)
    (step : ∀ i h t m news u oI, i < n → J i m news → Lg h₀ L h (fun y => if y = x then some (.int (a + i * c) u) else m y) ((I, oI) :: news) →
      wpAny (model prog w) A (execs body (envX cn cs L D ccd cl)) (TurnQ Q h₀ L g d os I oI (J (i + 1))) (fun _ _ => False) ⟨h, g, d, t, os⟩)
    (fin : ∀ h t m news, J n m news → Lg h₀ L h m news → Q .next ⟨h, g, d, t, os⟩) :
    ∀ k i h t m news, i + k = n → J i m news → Lg h₀ L h m ((I, rgIt (a + i * c) k c) :: news) → FoR prog w A (envX cn cs L D ccd cl) x px body Q I ⟨h, g, d, t, os⟩
  | 0, i, h, t, m, news, e, j, G => by
    obtain rfl : i = n := by omega
    exact r_rend ha G .head (by decide) fun h' t' G' => fin h' t' m news j G'
  | k + 1, i, h, t, m, news, e, j, G => by
    refine r_rturn G .head (by omega) hk hx fun h' t' u G' => ?_
    refine wpAny_mono (step i h' t' m news u _ (by omega) j G') (fun fl s z => ?_) fun _ _ z => z
    have key : (∃ h t m news', s = ⟨h, g, d, t, os⟩ ∧ Lg h₀ L h m ((I, rgIt (a + i * c + c) (((k + 1 : Nat) : Int) - 1) c) :: news') ∧ J (i + 1) m news') → FoR prog w A (envX cn cs L D ccd cl) x px body Q I s := by
      rintro ⟨h2, t2, m2, news2, rfl, G2, j2⟩
      refine go_range J ha hk hx step fin k (i + 1) h2 t2 m2 news2 (by omega) j2 ?_
      have e1 : a + ((i + 1 : Nat) : Int) * c = a + i * c + c := by
        have : ((i + 1 : Nat) : Int) = (i : Int) + 1 := by omega
        rw [this, Int.add_mul, Int.one_mul, Int.add_assoc]
      have e2 : (((k + 1 : Nat) : Int) - 1) = (k : Int) := by omega
      rw [e1, ← e2]
      exact G2
    cases fl with
    | next => exact key z
    | cont => exact key z
    | brk => exact z
    | ret v => exact z
theorem r_forRange {x px body} {Q : Flow → Shared → Prop} {a b c : Int} {n : Nat} {r : Addr} {t₁ t₂ t₃ : Tok} (J : Nat → (Str → Option Value) → List (Addr × Obj) → Prop) (ha : Ar A (envX cn cs L D ccd cl) outer dn un)
    (hk : cs.kind = .function) (hx : (envX cn cs L D ccd cl).kindOf x = some .local) (G : Lg h₀ L h m news) (hr : (r, rgObj a b c t₁ t₂ t₃) ∈ news) (hsm : Builtin.Range.small a b c = true) (hn : Builtin.Range.rangeSize a b c = (n : Int)) (h0 : J 0 m news)
    (step : ∀ I i h t m news u oI, i < n → J i m news → Lg h₀ L h (fun y => if y = x then some (.int (a + i * c) u) else m y) ((I, oI) :: news) →
      wpAny (model prog w) A (execs body (envX cn cs L D ccd cl)) (TurnQ Q h₀ L g d os I oI (J (i + 1))) (fun _ _ => False) ⟨h, g, d, t, os⟩)
    (fin : ∀ h t m news, J n m news → Lg h₀ L h m news → Q .next ⟨h, g, d, t, os⟩) :
    wpAny (model prog w) A (pyIter (.ref r)) (fun it s₂ => ∃ I, it = .ref I ∧ FoR prog w A (envX cn cs L D ccd cl) x px body Q I s₂) E ⟨h, g, d, t, os⟩ :=
  r_rangeIter G hr hsm fun I h' G' => ⟨I, rfl, go_range J (tt := 0) (ha.le (Nat.zero_le _) (Nat.zero_le _)) hk hx (step I) fin n 0 h' t m news (Nat.zero_add n) h0 (by rw [hn] at G'; simpa using G')⟩

theorem cells_keys {cm : Str → Option Value} {cs : List (Str × Addr)} {cells : List (Addr × Obj)} (x : CellsAre cm cs cells) : cells.map (·.1) = cs.map (·.2) := by
  induction x with
  | nil => rfl
  | cons _ _ ih => simp [ih]
/-- a def with cells -/
theorem Sp.defC {f : Addr} {vs : List Value} {post : Value → List (Addr × Obj) → Prop} {name qual : Str} {params : Arguments} {body : List Stmt} {scope : Scope} {dV kV doc pm cdv ct oc : Value} {an od : Option Addr} {osl : Array (Option Value)} {binds : List (Str × Value)}
    (ho : K.lookup f = some ⟨oc, od, .func (fnOf name qual params body scope dV kV doc pm an cdv ct), osl⟩) (hcd : codeIn K cdv qual = true)
    (hbind : ∀ s : Shared, K.In s.heap → BindsTo s (fnOf name qual params body scope dV kV doc pm an cdv ct) ⟨vs, []⟩ binds) (hkind : (binds.all fun y => scope.names.lookup y.1 == some .local || scope.names.lookup y.1 == some .cell) = true)
    (hnd : ((cellsFrom 0 scope.names []).map (·.1)).Nodup) (hap : ∀ n, ((cellsFrom n scope.names []).map (·.2)).Nodup ∧ ∀ c ∈ (cellsFrom n scope.names []).map (·.2), n ≤ c)
    (hco : scope.isCoroutine = false) (hgen : scope.isGenerator = false) (hk : scope.kind = .function)
    (k : ∀ (A : Around) (outer : List Env) (A₀ : Around) (base h₀ h : Heap) (L : Addr) (g : Array GenState) (d : Drawn) (t : Nat) (os : OsState) (cells : List (Addr × Obj)),
      Ar A (envOfC qual scope L f cdv) outer dn un → Gr K p loose mean mg mb A₀ base outer h₀ → CellsAre (bindC (envOfC qual scope L f cdv).kindOf binds fun _ => none) (cellsFrom (L + 1) scope.names []) cells → Lg h₀ L h (bindL (envOfC qual scope L f cdv).kindOf binds fun _ => none) (cells ++ news) →
      wpAny (model prog w) A (execs body (envOfC qual scope L f cdv)) (Back h₀ L g d os post) (fun _ _ => False) ⟨h, g, d, t, os⟩) :
    Sp prog w K p loose mean mg mb (.ref f) vs (dn + 1) (un + 3) news post := by
  refine Sp.code fun A env outer A₀ base h₀ h L m g d t os R a hf hke X G q => ?_
  refine code_defC (s := ⟨h, g, d, t, os⟩) X.b G.fr X.x G.nw X.t a.fr hf hke ho hcd (by have := a.dp; omega) (hbind _ (X.x.keeps G.fr.keep)) hkind hnd (fun g' L' h₁ tk cells FG F' N' C' B' X' T' lt => ?_) hco hgen hk
  refine wpAny_mono (k (A.deeper (envOfC qual scope L' f cdv)) (env :: outer) A base g' h₁ L' _ _ _ _ cells ⟨a.hd, ?_, ?_, ?_⟩ ⟨B', X', T'⟩ C' ⟨F', N', ?_⟩) (fun fl s' z => ?_) fun _ _ z => z.elim
  · show A.frames.map _ = _
    rw [a.fr]; rfl
  · show A.depth + 1 + dn < _
    have := a.dp; omega
  · show A.units + 3 + un < _
    have := a.us; omega
  · rw [List.map_append, cells_keys C', List.nodup_append]
    refine ⟨(hap _).1, G.nd, fun x hx y hy e => ?_⟩
    obtain ⟨q, hq, e'⟩ := List.mem_map.mp hy
    have h1 := (hap _).2 x hx
    have h2 : q.1 < L' := lt q hq
    rw [e', ← e] at h2
    exact Nat.lt_irrefl _ (Nat.lt_trans h2 h1)
  · obtain ⟨h', t', m', news', rfl, G', z⟩ := z
    exact leaveK_ (s' := ⟨h', g, d, t', os⟩) G'.fr G'.nw fun F N => q _ _ _ _ z ⟨F, N, G'.nd⟩
end
/-- the one ledger's entries all stand in the other, in some order -/
noncomputable def Sel (l l' : List (Addr × Obj)) : Prop := ∃ r, (l ++ r).Perm l'
theorem sel_refl {l : List (Addr × Obj)} : Sel l l := ⟨[], by simp⟩
theorem sel_nil {l : List (Addr × Obj)} : Sel [] l := ⟨l, by simp⟩
theorem sel_pull {D : Addr} {o : Obj} {l l' r : List (Addr × Obj)} (U : Pull D o l' r) (p : Sel l r) : Sel ((D, o) :: l) l' := by
  obtain ⟨q, p⟩ := p
  exact ⟨q, (p.cons (D, o)).trans U.perm.symm⟩
theorem sel_drop {x : Addr × Obj} {l l' : List (Addr × Obj)} (p : Sel l l') : Sel l (x :: l') := by
  obtain ⟨q, p⟩ := p
  exact ⟨x :: q, List.perm_middle.trans (p.cons x)⟩
theorem sel_dropA {x l l' : List (Addr × Obj)} (p : Sel l l') : Sel l (x ++ l') := by
  obtain ⟨q, p⟩ := p
  exact ⟨x ++ q, by
    refine List.Perm.trans ?_ (p.append_left x)
    rw [← List.append_assoc, ← List.append_assoc]
    exact List.Perm.append_right q List.perm_append_comm⟩
theorem sel_app {x l l' : List (Addr × Obj)} (p : Sel l l') : Sel (x ++ l) (x ++ l') := by
  obtain ⟨q, p⟩ := p
  exact ⟨q, by rw [List.append_assoc]; exact p.append_left x⟩
theorem Sel.trans {a b c : List (Addr × Obj)} (h : Sel a b) (k : Sel b c) : Sel a c := by
  obtain ⟨q, h⟩ := h
  obtain ⟨r, k⟩ := k
  exact ⟨q ++ r, by rw [← List.append_assoc]; exact (h.append_right r).trans k⟩
theorem Sel.mem {l l' : List (Addr × Obj)} (h : Sel l l') {p : Addr × Obj} (hp : p ∈ l) : p ∈ l' := by
  obtain ⟨r, h⟩ := h
  exact h.mem_iff.mp (List.mem_append_left _ hp)
theorem Sel.cons {l l' : List (Addr × Obj)} (h : Sel l l') (p : Addr × Obj) : Sel (p :: l) (p :: l') := by
  obtain ⟨r, h⟩ := h
  exact ⟨r, h.cons p⟩
theorem hap3 (n : Nat) : ([n + 2, n + 1, n] : List Nat).Nodup ∧ ∀ c ∈ ([n + 2, n + 1, n] : List Nat), n ≤ c := by simp <;> omega
theorem hap4 (n : Nat) : ([n + 3, n + 2, n + 1, n] : List Nat).Nodup ∧ ∀ c ∈ ([n + 3, n + 2, n + 1, n] : List Nat), n ≤ c := by simp <;> omega
theorem pull_head {D : Addr} {o : Obj} {r : List (Addr × Obj)} : Pull D o ((D, o) :: r) r := .head
section
variable {prog : Program} {w : World} {A : Around} {E : Value → Shared → Prop} {K : Frag} {p : Program} {loose : List Str} {mean : ExcName → Option Value} {mg mb : Str → Option Value} {A₀ : Around} {base h₀ h hh : Heap} {outer : List Env} {L a : Addr} {m : Str → Option Value} {news news' news'' : List (Addr × Obj)} {D : Addr} {f : Obj → List (Addr × Obj)}
  {g : Array GenState} {d : Drawn} {t tt dn un dn' un' : Nat} {os : OsState} {cn : Str} {cs : Scope} {ccd : Value} {cl : List (Str × Addr)} {env : Env} {M : Model}
theorem Lg.sel (G : Lg h₀ L h m news') (s : Sel news news') : Lg h₀ L h m news := by
  obtain ⟨r, s⟩ := s
  exact (G.perm s).subl (List.sublist_append_left _ _)
theorem r_backP {post : Value → List (Addr × Obj) → Prop} {v : Value} (G : Lg h₀ L h m news') (k : post v news) (s : Sel news news') : Back h₀ L g d os post (.ret v) ⟨h, g, d, t, os⟩ := r_back (G.sel s) k
theorem r_backP0 {post : Value → List (Addr × Obj) → Prop} (G : Lg h₀ L h m news') (k : post .none news) (s : Sel news news') : Back h₀ L g d os post .next ⟨h, g, d, t, os⟩ := r_back0 (G.sel s) k
theorem r_isIR {i : Int} {u : Tok} {y : Addr} {s : Shared} {Q : Value → Shared → Prop} (k : Q (.bool false) s) : wpAny M A (compareOp .Is (.int i u) (.ref y)) Q E s := by
  show wpAny M A (do return .bool (← isSame (.int i u) (.ref y))) Q E s
  exact wpAny_bind (wpAny_pure (wpAny_pure k))
theorem r_isnotIR {i : Int} {u : Tok} {y : Addr} {s : Shared} {Q : Value → Shared → Prop} (k : Q (.bool true) s) : wpAny M A (compareOp .IsNot (.int i u) (.ref y)) Q E s := by
  show wpAny M A (do return .bool (!(← isSame (.int i u) (.ref y)))) Q E s
  exact wpAny_bind (wpAny_pure (wpAny_pure k))
theorem r_isnotSame {x : Addr} {s : Shared} {Q : Value → Shared → Prop} (k : Q (.bool false) s) : wpAny (model prog w) A (compareOp .IsNot (.ref x) (.ref x)) Q E s := by
  exact wpAny_isNot_ref_self k
theorem kd_empty : KD prog w emptyDict [] := by
  obtain ⟨o, ho, hd⟩ := Heap.dictOf_iff.mp (Heap.DictOf.new (knd := PySem.strKind prog w) default)
  rw [Heap.get?_push_size _ rfl] at ho
  have e := Option.some.inj ho
  subst e
  exact hd
theorem r_pop1 {y : Value} {n : Nat} {f : Obj → List (Addr × Obj)} {Q : Value → Shared → Prop} (G : Lg h₀ L h m news) (U : PutF D (listOf [y].toArray n) news f)
    (k : ∀ n' h', Lg h₀ L h' m (f (listOf #[] n')) → Q y ⟨h', g, d, t, os⟩) : wpAny (model prog w) A (call (.builtin "list.pop") [.ref D]) Q E ⟨h, g, d, t, os⟩ :=
  r_pop (vs := []) G U (by decide) k
theorem r_wcont {test : Expr} {body : List Stmt} {Q : Flow → Shared → Prop} {s : Shared} (k : WhR prog w A env test body Q s) : WhQ prog w A env test body Q .cont s := k
theorem r_dmethK {name : Str} {id : String} {pl : Sem Bool} {dt : Data} {sl : Array (Option Value)} {Q : Value × List Value → Shared → Prop} (G : Lg h₀ L h m news) (X : Gr K p loose mean mg mb A₀ base outer h₀) (hl : K.lookup D = some ⟨.type "dict", none, dt, sl⟩) (slot : Slot "dict" name id) (hty : typeOf (.builtin id) = pure (.type "method_descriptor"))
    (k : Q (.builtin id, [.ref D]) ⟨h, g, d, t, os⟩) : wpAny (model prog w) A (getMethod (.ref D) name pl) Q E ⟨h, g, d, t, os⟩ :=
  getMethod_builtin (s := ⟨h, g, d, t, os⟩) ⟨_, (X.x.keeps G.fr.keep) _ _ hl, rfl⟩ PySem.F.plainAttrs_dict slot hty (fun a e => by cases e; exact ⟨_, (X.x.keeps G.fr.keep) _ _ hl, rfl⟩) k
theorem r_dmeth {name : Str} {id : String} {pl : Sem Bool} {o : Obj} {Q : Value × List Value → Shared → Prop} (G : Lg h₀ L h m news) (hm : (D, o) ∈ news) (hc : o.cls = .type "dict") (hd : o.dict = none) (slot : Slot "dict" name id) (hty : typeOf (.builtin id) = pure (.type "method_descriptor"))
    (k : Q (.builtin id, [.ref D]) ⟨h, g, d, t, os⟩) : wpAny (model prog w) A (getMethod (.ref D) name pl) Q E ⟨h, g, d, t, os⟩ :=
  getMethod_builtin (s := ⟨h, g, d, t, os⟩) ⟨_, G.get hm, hc⟩ PySem.F.plainAttrs_dict slot hty (fun a e => by cases e; exact ⟨_, G.get hm, hd⟩) k
theorem r_dgetN {n : Nat} {es : Array DictEntry} {x : Str} {u : Tok} {v : Value} {r : Option Value} {Q : Value → Shared → Prop} (G : Lg h₀ L h m news) (X : Gr K p loose mean mg mb A₀ base outer h₀) (hl : K.lookup D = some ⟨.type "dict", none, .dict es n, #[]⟩) (hk : KeysLit w.params es.toList) (low : (D == sysModules) = false) (e : nsIn K D x = some r)
    (k : Q (r.getD v) ⟨h, g, d, t + 1, os⟩) : wpAny (model prog w) A (call (.builtin "dict.get") [.ref D, .str x u, v]) Q E ⟨h, g, d, t, os⟩ :=
  r_dgetK G X hl hk low (by rw [find_K hl e]; exact k)
/-- a contract taken, the ledger first -/
theorem cal {f : Value} {vs : List Value} {post : Value → List (Addr × Obj) → Prop} {Q : Value → Shared → Prop} (G : Lg h₀ L h m news) (S : Sp prog w K p loose mean mg mb f vs dn un news post)
    (k : ∀ v news' h' t', post v news' → Lg h₀ L h' m news' → Q v ⟨h', g, d, t', os⟩) (a : Ar A env outer dn' un' := by assumption) (X : Gr K p loose mean mg mb A₀ base outer h₀ := by assumption)
    (h1 : dn ≤ dn' := by decide) (h2 : un ≤ un' := by decide) (hf : env.frame = some L := by rfl) (hk : env.scope.kind = .function := by rfl) : wpAny (model prog w) A (call f vs) Q E ⟨h, g, d, t, os⟩ := S.use a h1 h2 hf hk X G k
theorem r_swap2 {a b : Str} {v1 v2 : Value} {Q : Unit → Shared → Prop} {s : Shared} (k : wpAny M A (storeName env b v2) (fun _ s1 => wpAny M A (storeName env a v1) Q E s1) E s) : wpAny M A (assignInOrder ([a, b].reverse.map fun n => bindName env n) [v1, v2].reverse) Q E s := by
  show wpAny M A (assignInOrder [bindName env b, bindName env a] [v2, v1]) Q E s
  exact assignInOrder_cons (wpAny_bindName (wpAny_mono k (fun _ s1 k => assignInOrder_cons (wpAny_bindName (wpAny_mono k (fun _ s2 k => assignInOrder_nil k) fun _ _ e => e))) fun _ _ e => e))
theorem r_neNil {a b : Addr} {xs : List Value} {i j : Nat} {Q : Value → Shared → Prop} (ha : Ar A env outer dn un) (hu : 1 ≤ un) (G : Lg h₀ L h m news) (h1 : (a, listOf xs.toArray i) ∈ news) (h2 : (b, listOf #[] j) ∈ news)
    (k : Q (.bool (!xs.isEmpty)) ⟨h, g, d, t, os⟩) : wpAny (model prog w) A (compareOp .NotEq (.ref a) (.ref b)) Q E ⟨h, g, d, t, os⟩ := by
  have hu' : A.units < cLine := by have := ha.us; omega
  have L2 : h.IsList b #[] := ⟨_, G.get h2, rfl, _, rfl⟩
  cases xs with
  | nil =>
    have L1 : h.IsList a #[] := ⟨_, G.get h1, rfl, _, rfl⟩
    exact PySem.SeqAt.RcNeAt.lists (s := ⟨h, g, d, t, os⟩) (e := fun _ => true) L1 L2 rfl hu' (fun j q => absurd q (by simp)) _ _ _ _ k
  | cons x xs =>
    have L1 : h.IsList a (x :: xs).toArray := ⟨_, G.get h1, rfl, _, rfl⟩
    exact PySem.SeqAt.RcNeAt.lists_lengths (s := ⟨h, g, d, t, os⟩) L1 L2 (by simp) hu' _ _ _ _ k
/-- what isinstance says of a value -/
inductive IsV (K : Frag) (news : List (Addr × Obj)) (v c : Value) (b : Bool) : Prop
  | int (i : Int) (u : Tok) (hv : v = .int i u) (e : kitOne K (.type "int") c = some b)
  | obj (x C : Addr) (es : List DictEntry) (hv : v = .ref x) (I : InsIn K news x C es) (ok : IOk K C) (e : kitOne K (.ref C) c = some b)
theorem IsV.mono {v c : Value} {b : Bool} (H : IsV K news v c b) (s : ∀ p ∈ news, p ∈ news') : IsV K news' v c b := by
  cases H with
  | int i u hv e => exact .int i u hv e
  | obj x C es hv I ok e => exact .obj x C es hv (I.mono s) ok e
theorem r_isV {v c : Value} {b : Bool} {Q : Value → Shared → Prop} (G : Lg h₀ L h m news) (X : Gr K p loose mean mg mb A₀ base outer h₀) (H : IsV K news v c b)
    (k : ∀ t', Q (.bool b) ⟨h, g, d, t', os⟩) : wpAny (model prog w) A (call (.builtin "isinstance") [v, c]) Q E ⟨h, g, d, t, os⟩ := by
  cases H with
  | int i u hv e => subst hv; exact r_isiInt G X e k
  | obj x C es hv I ok e => subst hv; exact r_isi G X I ok e k
/-- a def with cells, its environment written out -/
theorem Sp.defX {f : Addr} {vs : List Value} {post : Value → List (Addr × Obj) → Prop} {name qual : Str} {params : Arguments} {body : List Stmt} {scope : Scope} {dV kV doc pm cdv ct oc : Value} {an od : Option Addr} {osl : Array (Option Value)} {binds : List (Str × Value)} (cl : Addr → List (Str × Addr))
    (ho : K.lookup f = some ⟨oc, od, .func (fnOf name qual params body scope dV kV doc pm an cdv ct), osl⟩) (hcd : codeIn K cdv qual = true)
    (hbind : ∀ s : Shared, K.In s.heap → BindsTo s (fnOf name qual params body scope dV kV doc pm an cdv ct) ⟨vs, []⟩ binds) (hkind : (binds.all fun y => scope.names.lookup y.1 == some .local || scope.names.lookup y.1 == some .cell) = true)
    (hnd : ((cellsFrom 0 scope.names []).map (·.1)).Nodup) (hap : ∀ n, ((cellsFrom n scope.names []).map (·.2)).Nodup ∧ ∀ c ∈ (cellsFrom n scope.names []).map (·.2), n ≤ c)
    (hco : scope.isCoroutine = false) (hgen : scope.isGenerator = false) (hk : scope.kind = .function) (hcl : ∀ L, cellsFrom (L + 1) scope.names [] = cl L)
    (k : ∀ (A : Around) (outer : List Env) (A₀ : Around) (base h₀ h : Heap) (L : Addr) (g : Array GenState) (d : Drawn) (t : Nat) (os : OsState) (cells : List (Addr × Obj)),
      Ar A (envX qual scope L f cdv (cl L)) outer dn un → Gr K p loose mean mg mb A₀ base outer h₀ → CellsAre (bindC (envX qual scope L f cdv (cl L)).kindOf binds fun _ => none) (cl L) cells → Lg h₀ L h (bindL (envX qual scope L f cdv (cl L)).kindOf binds fun _ => none) (cells ++ news) →
      wpAny (model prog w) A (execs body (envX qual scope L f cdv (cl L))) (Back h₀ L g d os post) (fun _ _ => False) ⟨h, g, d, t, os⟩) :
    Sp prog w K p loose mean mg mb (.ref f) vs (dn + 1) (un + 3) news post := by
  refine Sp.defC ho hcd hbind hkind hnd hap hco hgen hk fun A outer A₀ base h₀ h L g d t os cells a X C G => ?_
  have e : envOfC qual scope L f cdv = envX qual scope L f cdv (cl L) := by unfold envOfC; rw [hcl]
  rw [e] at a C G ⊢
  rw [hcl] at C
  exact k A outer A₀ base h₀ h L g d t os cells a X C G
end
theorem size_le {a b : Nat} (h : a ≤ b) (hb : b ≤ 16777216) : a ≤ sizeLine := by rw [sizeLine_eq]; exact Nat.le_trans h hb
theorem size_snoc {l : List Value} {x : Value} {b : Nat} (h : l.length ≤ b) (hb : b + 1 ≤ 16777216) : (l ++ [x]).length ≤ sizeLine := by rw [List.length_append]; exact size_le (Nat.add_le_add_right h _) hb
theorem size_two {a b c d : Nat} (h : a ≤ b) (h2 : c ≤ d) (hb : b + d ≤ 16777216) : a + c ≤ sizeLine := size_le (Nat.add_le_add h h2) hb
theorem small_nat {n : Nat} (h : n ≤ 1000000) : Builtin.Range.small 0 (n : Int) 1 = true := small_one (by decide) (by decide) (by omega) (by omega)
theorem wpAny_hide {α : Type} {M : Model} {A : Around} {E : Value → Shared → Prop} {x : Sem α} {s : Shared} {Q : α → Shared → Prop} (k : ∀ Q' : α → Shared → Prop, (∀ v s, Q v s → Q' v s) → wpAny M A x Q' E s) : wpAny M A x Q E s := k Q fun _ _ h => h
section
variable {A : Around} {h₀ : Heap} {L : Addr} {g : Array GenState} {d : Drawn} {os : OsState} {E : Value → Shared → Prop} {M : Model} {α : Type}
/-- a stop on the way: what stands there, told once, serves for all that is behind -/
theorem cutV {x : Sem α} {m1 : Str → Option Value} {news1 : List (Addr × Obj)} {h1 : Heap} {t1 : Nat} {Q : α → Shared → Prop} (G : Lg h₀ L h1 m1 news1) (P : α → List (Addr × Obj) → Prop)
    (k1 : ∀ BQ : α → Shared → Prop, (∀ v h' t' nw, P v nw → Lg h₀ L h' m1 nw → BQ v ⟨h', g, d, t', os⟩) → wpAny M A x BQ E ⟨h1, g, d, t1, os⟩)
    (k2 : ∀ v nw h' t', P v nw → Lg h₀ L h' m1 nw → Q v ⟨h', g, d, t', os⟩) : wpAny M A x Q E ⟨h1, g, d, t1, os⟩ := k1 Q fun v h' t' nw a b => k2 v nw h' t' a b
theorem cutM {x : Sem α} {m1 : Str → Option Value} {news1 : List (Addr × Obj)} {h1 : Heap} {t1 : Nat} {Q : α → Shared → Prop} (G : Lg h₀ L h1 m1 news1) (P : α → (Str → Option Value) → List (Addr × Obj) → Prop)
    (k1 : ∀ BQ : α → Shared → Prop, (∀ v h' t' m' nw, P v m' nw → Lg h₀ L h' m' nw → BQ v ⟨h', g, d, t', os⟩) → wpAny M A x BQ E ⟨h1, g, d, t1, os⟩)
    (k2 : ∀ v m' nw h' t', P v m' nw → Lg h₀ L h' m' nw → Q v ⟨h', g, d, t', os⟩) : wpAny M A x Q E ⟨h1, g, d, t1, os⟩ := k1 Q fun v h' t' m' nw a b => k2 v m' nw h' t' a b
theorem cutN {x : Sem Flow} {m1 : Str → Option Value} {news1 : List (Addr × Obj)} {h1 : Heap} {t1 : Nat} {Q : Flow → Shared → Prop} (G : Lg h₀ L h1 m1 news1)
    (k1 : ∀ BQ : Flow → Shared → Prop, (∀ h' t', Lg h₀ L h' m1 news1 → BQ Flow.next ⟨h', g, d, t', os⟩) → wpAny M A x BQ E ⟨h1, g, d, t1, os⟩)
    (k2 : ∀ h' t', Lg h₀ L h' m1 news1 → Q Flow.next ⟨h', g, d, t', os⟩) : wpAny M A x Q E ⟨h1, g, d, t1, os⟩ := k1 Q fun h' t' b => k2 h' t' b
theorem Lg.hideM {P : Prop} {h : Heap} {m : Str → Option Value} {news : List (Addr × Obj)} {x : Str} {v : Value} (G : Lg h₀ L h m news) (e : m x = some v) (k : ∀ m', m' x = some v → Lg h₀ L h m' news → P) : P := k m e G
theorem Lg.hide0 {P : Prop} {h : Heap} {m : Str → Option Value} {news : List (Addr × Obj)} (G : Lg h₀ L h m news) (k : ∀ m', Lg h₀ L h m' news → P) : P := k m G
theorem cutB {x : Sem Bool} (b : Bool) {m1 : Str → Option Value} {news1 : List (Addr × Obj)} {h1 : Heap} {t1 : Nat} {Q : Bool → Shared → Prop} (G : Lg h₀ L h1 m1 news1)
    (k1 : ∀ BQ : Bool → Shared → Prop, (∀ h' t', Lg h₀ L h' m1 news1 → BQ b ⟨h', g, d, t', os⟩) → wpAny M A x BQ E ⟨h1, g, d, t1, os⟩)
    (k2 : ∀ h' t', Lg h₀ L h' m1 news1 → Q b ⟨h', g, d, t', os⟩) : wpAny M A x Q E ⟨h1, g, d, t1, os⟩ := k1 Q fun h' t' c => k2 h' t' c
theorem r_stopB {op : BoolOp} {xs : List Expr} {p1 p2 : Pos} {b1 b2 : List Stmt} {env : Env} {s : Shared} {Q : Flow → Shared → Prop} (k : wpAny M A (exec (.If (.BoolOp op xs p1) b1 b2 p2) env) Q E s) : wpAny M A (exec (.If (.BoolOp op xs p1) b1 b2 p2) env) Q E s := k
theorem r_stopW {t : Expr} {b o : List Stmt} {p : Pos} {env : Env} {s : Shared} {Q : Flow → Shared → Prop} (k : wpAny M A (exec (.While t b o p) env) Q E s) : wpAny M A (exec (.While t b o p) env) Q E s := k
theorem r_stopE {a b c : Expr} {p : Pos} {env : Env} {s : Shared} {Q : Value → Shared → Prop} (k : wpAny M A (eval (.IfExp a b c p) env) Q E s) : wpAny M A (eval (.IfExp a b c p) env) Q E s := k
end
local macro_rules | `(tactic| k_extra "le") => `(tactic| first | assumption | exact Nat.le_trans (by assumption) (by decide) | (refine Nat.le_trans ?_ (by assumption); decide) | omega)
local macro_rules | `(tactic| k_extra "mem") => `(tactic| first | exact List.Mem.head _ | (refine List.Mem.tail _ ?_; k_extra "mem") | assumption | (refine List.mem_append_right _ ?_; k_extra "mem") | (refine List.mem_append_left _ ?_; k_extra "mem"))
local macro_rules | `(tactic| k_extra "sub") => `(tactic| (intro p9 h9; repeat (first | exact h9 | refine List.Mem.tail _ ?_ | refine List.mem_append_right _ ?_)))
local macro_rules | `(tactic| k_extra "put") => `(tactic| first | with_reducible exact Put.head | ((with_reducible apply Put.tail); k_extra "put") | ((with_reducible apply Put.app); k_extra "put"))
local macro_rules | `(tactic| k_extra "putf") => `(tactic| first | with_reducible exact PutF.head | ((with_reducible apply PutF.tail); k_extra "putf") | ((with_reducible apply PutF.app); k_extra "putf"))
local macro_rules | `(tactic| k_extra "pull") => `(tactic| first | with_reducible exact Pull.head | ((with_reducible apply Pull.tail); k_extra "pull") | ((with_reducible apply Pull.app); k_extra "pull"))
local macro_rules | `(tactic| k_extra "ins") => `(tactic| first | exact InsIn.news (by k_extra "mem") (by k_extra "mem") | assumption | exact InsIn.mono (by assumption) (by k_extra "sub") | exact InsIn.own (by k_is) (by k_is))
local macro_rules | `(tactic| k_extra "t") => `(tactic| first | exact rfl | assumption | exact decide_eq_true (by first | assumption | omega))
local macro_rules | `(tactic| k_extra "f") => `(tactic| first | exact rfl | assumption | exact decide_eq_false (by first | assumption | omega))
local macro_rules | `(tactic| k_extra "hand") => `(tactic| first | exact rfl | assumption)
local macro_rules | `(tactic| k_extra "size") => `(tactic| first | exact Nat.le_of_ble_eq_true rfl | assumption | exact size_le (by assumption) (by decide) | exact size_snoc (by assumption) (by decide) | exact size_two (by assumption) (by first | assumption | exact Nat.le_of_eq (by assumption) | exact Nat.le_refl _) (by decide) | ((have z9 := sizeLine_eq); (try simp only [List.length_append, List.length_cons, List.length_nil]); omega))
local macro_rules | `(tactic| k_extra "aok") => `(tactic| exact ⟨by k_is, by k_is, _, by k_is, by k_is⟩)
local macro_rules | `(tactic| k_extra "mok") => `(tactic| exact ⟨by k_is, by k_is, by k_is, by k_is⟩)
local macro_rules | `(tactic| k_extra "iok") => `(tactic| first | assumption | exact ⟨by k_is, by k_is, by k_is, by k_is, by k_is, by k_is⟩)
local macro_rules | `(tactic| k_extra "sok") => `(tactic| exact ⟨by k_is, by k_is, by k_is, by k_is⟩)
local macro_rules | `(tactic| k_extra "wE") => `(tactic| first
  | ((with_reducible refine' r_nameL ?G ?v ?a ?b ?c ?_); (case G => assumption); (case v => first | exact rfl | assumption); (case a | b => exact rfl); (case c => decide))
  | with_reducible refine' r_int ?_ <;> intro _ _
  | with_reducible refine' r_str ?_ <;> intro _ _
  | ((with_reducible refine' Attribute_Name_ ?_ ?he); (case he => exact rfl))
  | ((with_reducible refine' r_nameK ?G ?X ?e ?a ?b ?c ?_); (case G | X => assumption); (case a | b => exact rfl); (case e => k_is); (case c => decide))
  | ((with_reducible refine' r_nameB ?G ?X ?e ?v ?n ?a ?b ?c ?_); (case G | X => assumption); (case a | b => exact rfl); (case e => k_is); (case v => boot_fast); (case n | c => decide))
  | ((with_reducible refine' Attribute_any_ ?_ ?he); (case he => exact rfl))
  | ((with_reducible refine' MethodCall_ ?_ ?he); (rotate_left; (case he => exact rfl)))
  | ((with_reducible refine' r_call ?_ ?he); (case he => exact rfl))
  | with_reducible refine wpAny_BinOp ?_
  | with_reducible refine' Tuple_ ?_
  | with_reducible refine' List_ ?_
  | with_reducible refine' r_ifexp ?_
  | with_reducible refine' Subscript_ ?_
  )
local macro_rules | `(tactic| k_extra "wX") => `(tactic| first
  | with_reducible refine r_seq ?_
  | with_reducible refine wpAny_execs_nil ?_
  | with_reducible refine r_if ?_
  | with_reducible refine wpAny_Return_some ?_
  | with_reducible refine wpAny_Return_none ?_
  | ((with_reducible refine' wpAny_Expr_any ?_ ?hi ?hs); (case hi | hs => exact rfl))
  | ((with_reducible refine' plainObj_wpAny_Assign_Attribute ?_ ?hs); rotate_left; (case hs => exact rfl))
  | ((with_reducible refine' wpAny_Assign_Name ?_ ?hs); (case hs => exact rfl))
  | k_extra "for"
  )
local macro_rules | `(tactic| k_extra "wT") => `(tactic| first
  | with_reducible refine r_and ?_
  | with_reducible refine r_or ?_
  | with_reducible refine isTrue_and_nil ?_
  | with_reducible refine isTrue_not ?_
  | ((with_reducible refine' wpAny_isTrue_Compare1 ?_ ?hm); (case hm => with_unfolding_all rfl))
  | ((with_reducible refine' isTrue_plain ?_ ?he); (case he => exact rfl)))
local macro_rules | `(tactic| k_extra "wQ") => `(tactic| first
  | with_reducible refine r_next ?_
  | with_reducible refine r_retq ?_
  | ((with_reducible refine' r_if_t ?e ?_); (case e => k_extra "t"))
  | ((with_reducible refine' r_if_f ?e ?_); (case e => k_extra "f"))
  | ((with_reducible refine' r_q_t ?e ?_); (case e => k_extra "t"))
  | ((with_reducible refine' r_q_f ?e ?_); (case e => k_extra "f"))
  | ((with_reducible refine' r_kin ?G ?X ?_); (case G | X => assumption)))
local macro_rules | `(tactic| k_extra "wC") => `(tactic| first
  | ((with_reducible refine' args_cons ?_ ?he); (case he => exact rfl))
  | with_reducible refine' args_nil ?_
  | with_reducible refine r_nil_app ?_
  | with_reducible refine r_one_app ?_
  | ((with_reducible refine' r_cwB ?he ?hp ?_); (case he | hp => exact rfl))
  | ((with_reducible refine' r_cwK ?X ?hk ?he ?hp ?_); (case X => assumption); (case hk => k_is); (case he | hp => exact rfl))
  | ((with_reducible refine' r_lmeth ?G ?m PySem.F.slot_list_append PySem.F.type_list_append ?_); (case G => assumption); (case m => k_extra "mem"))
  | ((with_reducible refine' r_lmeth ?G ?m PySem.F.slot_list_extend PySem.F.type_list_extend ?_); (case G => assumption); (case m => k_extra "mem"))
  | ((with_reducible refine' r_meth ?G ?X ?I ?ok ?l ?_); (case G | X => assumption); (case I => k_extra "ins"); (case ok => k_extra "mok"); (case l => k_get))
  | ((with_reducible refine' r_append ?G ?U ?z ?_); (case G => assumption); (case U => k_extra "putf"); (case z => k_extra "size"); intro _ _ _)
  | ((with_reducible refine' r_extend ?G ?b ?U ?z ?_); (case G => assumption); (case b => k_extra "mem"); (case U => k_extra "putf"); (case z => k_extra "size"); intro _ _ _)
  | ((with_reducible refine' r_cwT ?he ?hp ?_); (case he | hp => exact rfl))
  | ((with_reducible refine' r_len ?G ?m ?z ?_); (case G => assumption); (case m => k_extra "mem"); (case z => k_extra "size"); intro _ _)
  | ((with_reducible refine' r_isi ?G ?X ?I ?ok ?e ?_); (case G | X => assumption); (case I => k_extra "ins"); (case ok => k_extra "iok"); (case e => first | assumption | kit_is); intro _)
  | ((with_reducible refine' r_isV ?G ?X ?H ?_); (case G | X => assumption); (case H => first | assumption | exact IsV.mono (by assumption) (by k_extra "sub")); intro _)
  )
local macro_rules | `(tactic| k_extra "wO") => `(tactic| first
  | ((with_reducible refine' r_attr ?G ?X ?I ?ok ?l ?v ?_); (case G | X => assumption); (case I => k_extra "ins"); (case ok => k_extra "aok"); (case l => k_get); (case v => k_extra "hand"); intro _)
  | with_reducible refine wpAny_truthy_bool ?_
  | (with_reducible refine' gt_int ?_)
  | (with_reducible refine' ge_int ?_)
  | (with_reducible refine' eq_int ?_)
  | ((with_reducible refine' r_newTuple ?G ?z ?_); (case G => assumption); (case z => k_extra "size"); intro _ _ _)
  | ((with_reducible refine' r_newList ?G ?z ?_); (case G => assumption); (case z => k_extra "size"); intro _ _ _)
  | ((with_reducible refine' r_store ?G ?a ?b ?_); (case G => assumption); (case a | b => exact rfl); intro _ _ _)
  | ((with_reducible refine' r_setattr ?G ?X ?hx ?ok ?l ?e ?U ?z ?_); (case G | X => assumption); (case hx => k_extra "mem"); (case U => k_extra "put"); (case ok => k_extra "sok"); (case l => k_get); (case e => k_put); (case z => exact Nat.le_of_ble_eq_true rfl); intro _ _ _)
  )
local macro_rules | `(tactic| k_extra "w") => `(tactic| first
  | ((with_reducible show wpAny _ _ (eval _ _) _ _ _); k_extra "wE")
  | k_extra "wQ"
  | k_extra "wC"
  | k_extra "wO"
  | k_extra "wX"
  | k_extra "wT")
local macro_rules | `(tactic| k_extra "strs") => `(tactic| first | exact StrsAre.nil | exact StrsAre.cons _ _ (StrsAre.nil) | exact StrsAre.cons _ _ (StrsAre.cons _ _ (StrsAre.nil)) | exact StrsAre.cons _ _ (StrsAre.cons _ _ (StrsAre.cons _ _ (StrsAre.nil))) | exact StrsAre.cons _ _ (StrsAre.cons _ _ (StrsAre.cons _ _ (StrsAre.cons _ _ (StrsAre.nil)))))
local macro_rules | `(tactic| k_extra "ints") => `(tactic| first | exact IntsAre.nil | (refine IntsAre.cons _ _ ?_; k_extra "ints"))
local macro_rules | `(tactic| k_extra "tupS") => `(tactic| ((with_reducible refine' r_inTupS ?G ?m ?i ?_); (case G => assumption); (case m => k_extra "mem"); (case i => k_extra "strs")))
local macro_rules | `(tactic| k_extra "for") => `(tactic| ((with_reducible refine' r_for ?hs ?_); (case hs => exact fun _ => rfl)))
local macro_rules | `(tactic| k_extra "while") => `(tactic| with_reducible refine' r_while ?_)
local macro_rules | `(tactic| k_extra "suf") => `(tactic| first | exact suf_refl | (refine suf_cons ?_; k_extra "suf") | (refine suf_app ?_; k_extra "suf"))
local macro_rules | `(tactic| k_extra "pylong") => `(tactic| exact PyProof.noPylong_small (by decide))
local macro_rules | `(tactic| k_extra "subl") => `(tactic| first | exact List.Sublist.refl _ | (refine List.Sublist.cons_cons _ ?_; k_extra "subl") | (refine List.Sublist.cons _ ?_; k_extra "subl") | (refine List.Sublist.append (List.Sublist.refl _) ?_; k_extra "subl") | (refine List.Sublist.trans ?_ (List.sublist_append_right _ _); k_extra "subl"))
local macro_rules | `(tactic| k_extra "turned") => `(tactic| (refine' r_turned ?G ?j; (case G => assumption)))
local macro_rules | `(tactic| k_extra "selD") => `(tactic| first | with_reducible exact sel_refl | with_reducible exact sel_nil | ((with_reducible refine sel_app ?_); k_extra "selD") | ((with_reducible refine sel_drop ?_); k_extra "selD") | ((with_reducible refine sel_dropA ?_); k_extra "selD"))
local macro_rules | `(tactic| k_extra "sel") => `(tactic| first | with_reducible exact sel_refl | ((with_reducible refine' sel_pull ?U ?_); (case U => k_extra "pull"); k_extra "sel") | k_extra "selD")
section
variable {w : World} {p : Program} {loose : List Str} {mean : ExcName → Option Value} {mg mb : Str → Option Value} {news : List (Addr × Obj)}
theorem coE_ex {h0 h1 : Int} {t0 t1 : Tok} {a b : Value} : ∃ k t, ([⟨h0, .str (Str.ofString "car") t0, a⟩, ⟨h1, .str (Str.ofString "cdr") t1, b⟩] : List DictEntry) = coE k t a b := ⟨fun i => [h0, h1].getD i 0, fun i => [t0, t1].getD i 0, rfl⟩
theorem veE_ex {h0 : Int} {t0 : Tok} {l : Addr} : ∃ k t, ([⟨h0, .str (Str.ofString "things") t0, .ref l⟩] : List DictEntry) = veE k t l := ⟨fun _ => h0, fun _ => t0, rfl⟩
theorem syE_ex {h0 h1 : Int} {t0 t1 t2 t3 : Tok} {n : Int} {x : Str} : ∃ k t, ([⟨h0, .str (Str.ofString "number") t0, .int n t2⟩, ⟨h1, .str (Str.ofString "name") t1, .str x t3⟩] : List DictEntry) = syE k t n x := ⟨fun i => [h0, h1].getD i 0, fun i => [t0, t1, t2, t3].getD i 0, rfl⟩
theorem prE_ex {h0 h1 h2 h3 h4 h5 : Int} {t0 t1 t2 t3 t4 t5 : Tok} {oA cA jA rA : Addr} {ob lb : Value} : ∃ k t, ([⟨h0, .str (Str.ofString "options") t0, .ref oA⟩, ⟨h1, .str (Str.ofString "obarray") t1, ob⟩, ⟨h2, .str (Str.ofString "labels") t2, lb⟩, ⟨h3, .str (Str.ofString "codes") t3, .ref cA⟩, ⟨h4, .str (Str.ofString "jobs") t4, .ref jA⟩, ⟨h5, .str (Str.ofString "around") t5, .ref rA⟩] : List DictEntry) = prE k t oA ob lb cA jA rA :=
  ⟨fun i => [h0, h1, h2, h3, h4, h5].getD i 0, fun i => [t0, t1, t2, t3, t4, t5].getD i 0, rfl⟩
theorem opE_ex {h0 h1 h2 h3 h4 h5 h6 h7 : Int} {t0 t1 t2 t3 t4 t5 t6 t7 : Tok} {len lev qu : Value} : ∃ k t, ([⟨h0, .str (Str.ofString "is_quoting") t0, .bool true⟩, ⟨h1, .str (Str.ofString "length") t1, len⟩, ⟨h2, .str (Str.ofString "level") t2, lev⟩, ⟨h3, .str (Str.ofString "escape_newlines") t3, .bool false⟩, ⟨h4, .str (Str.ofString "quoted") t4, qu⟩, ⟨h5, .str (Str.ofString "circle") t5, .bool false⟩, ⟨h6, .str (Str.ofString "gensym") t6, .bool false⟩, ⟨h7, .str (Str.ofString "spans_rows") t7, .none⟩] : List DictEntry) = opE k t len lev qu :=
  ⟨fun i => [h0, h1, h2, h3, h4, h5, h6, h7].getD i 0, fun i => [t0, t1, t2, t3, t4, t5, t6, t7].getD i 0, rfl⟩

theorem new_cons {a b : Value} : SP w p loose mean mg mb (.ref 98) [a, b] 12 24 news (fun r nw => ∃ x dx es j, r = .ref x ∧ nw = (x, instObj 98 dx) :: (dx, dictOf es j) :: news ∧ (∃ k t, es = coE k t a b) ∧ ∀ p ∈ news, p.1 < x) := by
  ((unfold SP; k_fill; refine' Sp.new ?hm ?hi ?hf ?ho ?hcd ?hb ?hl ?h1 ?h2 ?h3 ?h4 ?_; (case hm | hi | hf | ho | hcd => k_is); (case hb => exact fun _ _ _ => BindsTo.of_eq rfl); (case hl => exact fun _ => locs rfl); (case h1 | h2 | h3 => exact rfl); (case h4 => decide); intro _ _ _ _ _ _ _ _ _ _ _ _ _ _ _ _ _; ((refine wpAny_hide ?_; intro _ hQ))))
  (repeat' (k_extra "w"))
  ((refine hQ _ _ ?_; (first | with_reducible refine' r_back0 ?G ?k | with_reducible refine' r_back ?G ?k); (case G => assumption)))
  exact ⟨rfl, _, _, _, _, rfl, rfl, coE_ex, by assumption⟩
theorem new_vec {l : Addr} : SP w p loose mean mg mb (.ref 141) [.ref l] 12 24 news (fun r nw => ∃ x dx es j, r = .ref x ∧ nw = (x, instObj 141 dx) :: (dx, dictOf es j) :: news ∧ (∃ k t, es = veE k t l) ∧ ∀ p ∈ news, p.1 < x) := by
  ((unfold SP; k_fill; refine' Sp.new ?hm ?hi ?hf ?ho ?hcd ?hb ?hl ?h1 ?h2 ?h3 ?h4 ?_; (case hm | hi | hf | ho | hcd => k_is); (case hb => exact fun _ _ _ => BindsTo.of_eq rfl); (case hl => exact fun _ => locs rfl); (case h1 | h2 | h3 => exact rfl); (case h4 => decide); intro _ _ _ _ _ _ _ _ _ _ _ _ _ _ _ _ _; ((refine wpAny_hide ?_; intro _ hQ))))
  (repeat' (k_extra "w"))
  ((refine hQ _ _ ?_; (first | with_reducible refine' r_back0 ?G ?k | with_reducible refine' r_back ?G ?k); (case G => assumption)))
  exact ⟨rfl, _, _, _, _, rfl, rfl, veE_ex, by assumption⟩
theorem new_sym {n : Int} {u v : Tok} {y : Str} : SP w p loose mean mg mb (.ref 71) [.int n u, .str y v] 12 24 news (fun r nw => ∃ x dx es j, r = .ref x ∧ nw = (x, instObj 71 dx) :: (dx, dictOf es j) :: news ∧ (∃ k t, es = syE k t n y) ∧ ∀ p ∈ news, p.1 < x) := by
  ((unfold SP; k_fill; refine' Sp.new ?hm ?hi ?hf ?ho ?hcd ?hb ?hl ?h1 ?h2 ?h3 ?h4 ?_; (case hm | hi | hf | ho | hcd => k_is); (case hb => exact fun _ _ _ => BindsTo.of_eq rfl); (case hl => exact fun _ => locs rfl); (case h1 | h2 | h3 => exact rfl); (case h4 => decide); intro _ _ _ _ _ _ _ _ _ _ _ _ _ _ _ _ _; ((refine wpAny_hide ?_; intro _ hQ))))
  (repeat' (k_extra "w"))
  ((refine hQ _ _ ?_; (first | with_reducible refine' r_back0 ?G ?k | with_reducible refine' r_back ?G ?k); (case G => assumption)))
  exact ⟨rfl, _, _, _, _, rfl, rfl, syE_ex, by assumption⟩
theorem new_opt : SP w p loose mean mg mb (.ref 312) [.bool true] 12 24 news (fun r nw => ∃ x dx es j u v, r = .ref x ∧ nw = (x, instObj 312 dx) :: (dx, dictOf es j) :: news ∧ (∃ k t, es = opE k t (.int (-1) u) (.int (-1) v) (.bool true)) ∧ ∀ p ∈ news, p.1 < x) := by
  ((unfold SP; k_fill; refine' Sp.new ?hm ?hi ?hf ?ho ?hcd ?hb ?hl ?h1 ?h2 ?h3 ?h4 ?_; (case hm | hi | hf | ho | hcd => k_is); (case hb => exact fun _ _ _ => BindsTo.of_eq rfl); (case hl => exact fun _ => locs rfl); (case h1 | h2 | h3 => exact rfl); (case h4 => decide); intro _ _ _ _ _ _ _ _ _ _ _ _ _ _ _ _ _; ((refine wpAny_hide ?_; intro _ hQ))))
  (repeat' ((first | k_extra "w" | with_reducible refine Constant_bool ?_ | with_reducible refine Constant_none ?_ | with_reducible refine' UnaryOp_ ?_ | (with_reducible refine' r_neg ?_ <;> intro _ _))))
  ((refine hQ _ _ ?_; (first | with_reducible refine' r_back0 ?G ?k | with_reducible refine' r_back ?G ?k); (case G => assumption)))
  exact ⟨rfl, _, _, _, _, _, _, rfl, rfl, opE_ex, by assumption⟩
theorem new_pr {oA : Addr} {ob lb : Value} : SP w p loose mean mg mb (.ref 429) [.ref oA, ob, lb] 12 24 news (fun r nw => ∃ x dx es j cA jA rA, r = .ref x ∧ nw = (rA, listOf #[] 0) :: (jA, listOf #[] 0) :: (cA, listOf #[] 0) :: (x, instObj 429 dx) :: (dx, dictOf es j) :: news ∧ (∃ k t, es = prE k t oA ob lb cA jA rA)) := by
  ((unfold SP; k_fill; refine' Sp.new ?hm ?hi ?hf ?ho ?hcd ?hb ?hl ?h1 ?h2 ?h3 ?h4 ?_; (case hm | hi | hf | ho | hcd => k_is); (case hb => exact fun _ _ _ => BindsTo.of_eq rfl); (case hl => exact fun _ => locs rfl); (case h1 | h2 | h3 => exact rfl); (case h4 => decide); intro _ _ _ _ _ _ _ _ _ _ _ _ _ _ _ _ _; ((refine wpAny_hide ?_; intro _ hQ))))
  (repeat' (k_extra "w"))
  ((refine hQ _ _ ?_; (first | with_reducible refine' r_back0 ?G ?k | with_reducible refine' r_back ?G ?k); (case G => assumption)))
  exact ⟨rfl, _, _, _, _, _, _, _, rfl, rfl, prE_ex⟩
end
section
variable {w : World} {p : Program} {loose : List Str} {mean : ExcName → Option Value} {mg mb : Str → Option Value} {news : List (Addr × Obj)}
theorem ints_snoc {vs : List Value} {ns : List Int} (h : IntsAre vs ns) (n : Int) (u : Tok) : IntsAre (vs ++ [.int n u]) (ns ++ [n]) := by
  induction h with
  | nil => exact .cons n u .nil
  | cons k t r ih => exact .cons k t ih
theorem ints_app {vs vs' : List Value} {ns ns' : List Int} (h : IntsAre vs ns) (h' : IntsAre vs' ns') : IntsAre (vs ++ vs') (ns ++ ns') := by
  induction h with
  | nil => exact h'
  | cons k t r ih => exact .cons k t ih
noncomputable def codesOf (x : Str) : List Int := x.cps.toList.map Int.ofNat
theorem sp_codes {x : Str} {u : Tok} (hz : x.cps.size ≤ sizeLine) : SP w p loose mean mg mb (.ref 321) [.str x u] 12 24 news (fun r nw => ∃ D vs n, r = .ref D ∧ nw = (D, listOf vs.toArray n) :: news ∧ IntsAre vs (codesOf x)) := by
  ((unfold SP; k_fill; refine' Sp.def ?ho ?hcd ?hb ?hl ?h1 ?h2 ?h3 ?h4 ?_; (case ho | hcd => k_is); (case hb => first | exact fun _ _ => BindsTo.of_eq (binds := [(_, _)]) rfl | exact fun _ _ => BindsTo.of_eq (binds := [(_, _), (_, _)]) rfl | exact fun _ _ => BindsTo.of_eq (binds := [(_, _), (_, _), (_, _)]) rfl | exact fun _ _ => BindsTo.of_eq (binds := [(_, _), (_, _), (_, _), (_, _)]) rfl | exact fun _ _ => BindsTo.of_eq rfl); (case hl => exact locs rfl); (case h1 | h2 | h3 => exact rfl); (case h4 => decide); intro _ _ _ _ _ _ _ _ _ _ _ _ _ _; ((refine wpAny_hide ?_; intro _ hQ))))
  (repeat' ((first | k_extra "w" | ((with_reducible refine' r_lc ?q9c ?q9k ?q9n ?q9s ?_); (case q9c | q9k => exact rfl); (case q9n => decide); (case q9s => (intro _; exact rfl))) | ((with_reducible refine' r_gL ?q9G ?q9n ?q9m ?q9v ?q9a ?q9b ?q9c ?_); (case q9G | q9n => assumption); (case q9m => k_extra "mem"); (case q9v => assumption); (case q9a | q9b => exact rfl); (case q9c => decide)) | ((with_reducible refine' r_gB ?q9G ?q9X ?q9e ?q9v ?q9n ?q9g ?q9gb ?q9a ?q9b ?q9c ?_); (case q9G | q9X => assumption); (case q9g | q9gb | q9a | q9b => exact rfl); (case q9e => k_is); (case q9v => boot_fast); (case q9n | q9c => decide)) | (with_reducible refine' r_ord ?_ <;> intro _ _))))
  refine cmp_str (fun i ys nw => nw = news ∧ IntsAre ys ((x.cps.toList.take i).map Int.ofNat)) (by decide) rfl rfl (Ar.hd (by assumption)) (by assumption) hz ⟨rfl, .nil⟩ ?_ (endK_none ?_)
  · rintro i v ys nw I oI C oC D m₂ h t hi ⟨c, u, hc, rfl⟩ ⟨rfl, hj⟩ hn hm G
    (repeat' ((first | k_extra "w" | ((with_reducible refine' r_lc ?q9c ?q9k ?q9n ?q9s ?_); (case q9c | q9k => exact rfl); (case q9n => decide); (case q9s => (intro _; exact rfl))) | ((with_reducible refine' r_gL ?q9G ?q9n ?q9m ?q9v ?q9a ?q9b ?q9c ?_); (case q9G | q9n => assumption); (case q9m => k_extra "mem"); (case q9v => assumption); (case q9a | q9b => exact rfl); (case q9c => decide)) | ((with_reducible refine' r_gB ?q9G ?q9X ?q9e ?q9v ?q9n ?q9g ?q9gb ?q9a ?q9b ?q9c ?_); (case q9G | q9X => assumption); (case q9g | q9gb | q9a | q9b => exact rfl); (case q9e => k_is); (case q9v => boot_fast); (case q9n | q9c => decide)) | (with_reducible refine' r_ord ?_ <;> intro _ _))))
    refine ⟨_, _, _, rfl, by assumption, rfl, ?_⟩
    have hc' : x.cps.toList[i]? = some c := by simpa using hc
    rw [List.take_add_one, hc', List.map_append]
    exact ints_snoc hj _ _
  · rintro D h t ys nw G ⟨rfl, hj⟩
    (repeat' ((first | k_extra "w" | ((with_reducible refine' r_lc ?q9c ?q9k ?q9n ?q9s ?_); (case q9c | q9k => exact rfl); (case q9n => decide); (case q9s => (intro _; exact rfl))) | ((with_reducible refine' r_gL ?q9G ?q9n ?q9m ?q9v ?q9a ?q9b ?q9c ?_); (case q9G | q9n => assumption); (case q9m => k_extra "mem"); (case q9v => assumption); (case q9a | q9b => exact rfl); (case q9c => decide)) | ((with_reducible refine' r_gB ?q9G ?q9X ?q9e ?q9v ?q9n ?q9g ?q9gb ?q9a ?q9b ?q9c ?_); (case q9G | q9X => assumption); (case q9g | q9gb | q9a | q9b => exact rfl); (case q9e => k_is); (case q9v => boot_fast); (case q9n | q9c => decide)) | (with_reducible refine' r_ord ?_ <;> intro _ _))))
    ((refine hQ _ _ ?_; (first | with_reducible refine' r_back0 ?G ?k | with_reducible refine' r_back ?G ?k); (case G => assumption)))
    refine ⟨_, _, _, rfl, rfl, ?_⟩
    have e : x.cps.toList.take x.cps.size = x.cps.toList := List.take_of_length_le (by simp)
    rw [e] at hj
    exact hj
end
section
variable {w : World} {p : Program} {loose : List Str} {mean : ExcName → Option Value} {mg mb : Str → Option Value} {news : List (Addr × Obj)}
theorem sp_value {x : Str} {u v : Tok} {c : Nat} {i : Int} (hz : x.length ≤ 100) (h1 : [Str.ofString "+", Str.ofString "-"].any (· == Txt.slice x none (some 1)) = false) (h2 : (x == Str.ofString "") = false)
    (hl : Txt.lower x = x) (hlz : Builtin.Str.tooLong (Txt.lower x).length = false) (hc : x.cps[0]? = some c) (ha : x.cps.all (· < 128) = true) (hf : Txt.find (Str.ofString "0123456789abcdefghijklmnopqrstuvwxyz") ⟨#[c]⟩ = i) (hi : i < 0 ∨ 10 ≤ i) :
    SP w p loose mean mg mb (.ref 28) [.str x u, .int 10 v] 12 24 news (fun r nw => r = .none ∧ nw = news) := by
  ((unfold SP; k_fill; refine' Sp.def ?ho ?hcd ?hb ?hl ?h1 ?h2 ?h3 ?h4 ?_; (case ho | hcd => k_is); (case hb => first | exact fun _ _ => BindsTo.of_eq (binds := [(_, _)]) rfl | exact fun _ _ => BindsTo.of_eq (binds := [(_, _), (_, _)]) rfl | exact fun _ _ => BindsTo.of_eq (binds := [(_, _), (_, _), (_, _)]) rfl | exact fun _ _ => BindsTo.of_eq (binds := [(_, _), (_, _), (_, _), (_, _)]) rfl | exact fun _ _ => BindsTo.of_eq rfl); (case hl => exact locs rfl); (case h1 | h2 | h3 => exact rfl); (case h4 => decide); intro _ _ _ _ _ _ _ _ _ _ _ _ _ _; ((refine wpAny_hide ?_; intro _ hQ))))
  (repeat' ((first | k_extra "w" | with_reducible refine Constant_none ?_ | with_reducible refine' wpAny_Slice ?_ | with_reducible refine r_fret ?_ | with_reducible refine' r_cwB0 ?_ | with_reducible refine' evalPart_none_step ?_ | with_reducible refine' evalPart_some_step ?_ | with_reducible refine' GM.lower ?_ | with_reducible refine' GM.find ?_ | (with_reducible refine' lt_int ?_) | with_reducible refine' r_eqStr ?_ | k_extra "tupS" | ((with_reducible refine' r_slNS ?q9G ?q9a ?q9b ?q9z ?_); (case q9G => assumption); (case q9a => with_unfolding_all rfl); (case q9b => intro _; with_unfolding_all rfl); (case q9z => k_extra "size"); intro _ _ _ _))))
  refine r_lower hl hlz fun u' t' => ?_
  refine r_strIter (by assumption) ha fun I o h' ho hi' G => ⟨I, rfl, ?_⟩
  refine r_sturn G hi' hc rfl rfl fun h' t' u' G => ?_
  (repeat' ((first | k_extra "w" | with_reducible refine Constant_none ?_ | with_reducible refine' wpAny_Slice ?_ | with_reducible refine r_fret ?_ | with_reducible refine' r_cwB0 ?_ | with_reducible refine' evalPart_none_step ?_ | with_reducible refine' evalPart_some_step ?_ | with_reducible refine' GM.lower ?_ | with_reducible refine' GM.find ?_ | (with_reducible refine' lt_int ?_) | with_reducible refine' r_eqStr ?_ | k_extra "tupS" | ((with_reducible refine' r_slNS ?q9G ?q9a ?q9b ?q9z ?_); (case q9G => assumption); (case q9a => with_unfolding_all rfl); (case q9b => intro _; with_unfolding_all rfl); (case q9z => k_extra "size"); intro _ _ _ _))))
  refine r_find hf fun u' t' => ?_
  (repeat' ((first | k_extra "w" | with_reducible refine Constant_none ?_ | with_reducible refine' wpAny_Slice ?_ | with_reducible refine r_fret ?_ | with_reducible refine' r_cwB0 ?_ | with_reducible refine' evalPart_none_step ?_ | with_reducible refine' evalPart_some_step ?_ | with_reducible refine' GM.lower ?_ | with_reducible refine' GM.find ?_ | (with_reducible refine' lt_int ?_) | with_reducible refine' r_eqStr ?_ | k_extra "tupS" | ((with_reducible refine' r_slNS ?q9G ?q9a ?q9b ?q9z ?_); (case q9G => assumption); (case q9a => with_unfolding_all rfl); (case q9b => intro _; with_unfolding_all rfl); (case q9z => k_extra "size"); intro _ _ _ _))))
  refine r_q_s (fun e => ?_) fun e => ?_
  · (repeat' ((first | k_extra "w" | with_reducible refine Constant_none ?_ | with_reducible refine' wpAny_Slice ?_ | with_reducible refine r_fret ?_ | with_reducible refine' r_cwB0 ?_ | with_reducible refine' evalPart_none_step ?_ | with_reducible refine' evalPart_some_step ?_ | with_reducible refine' GM.lower ?_ | with_reducible refine' GM.find ?_ | (with_reducible refine' lt_int ?_) | with_reducible refine' r_eqStr ?_ | k_extra "tupS" | ((with_reducible refine' r_slNS ?q9G ?q9a ?q9b ?q9z ?_); (case q9G => assumption); (case q9a => with_unfolding_all rfl); (case q9b => intro _; with_unfolding_all rfl); (case q9z => k_extra "size"); intro _ _ _ _))))
    ((refine hQ _ _ ?_; (first | with_reducible refine' r_backS0 ?G ?k ?s | with_reducible refine' r_backS ?G ?k ?s); (case G => assumption)))
    case k => exact ⟨rfl, rfl⟩
    case s => k_extra "suf"
  · have hi' : 10 ≤ i := by have := of_decide_eq_false e; omega
    (repeat' ((first | k_extra "w" | with_reducible refine Constant_none ?_ | with_reducible refine' wpAny_Slice ?_ | with_reducible refine r_fret ?_ | with_reducible refine' r_cwB0 ?_ | with_reducible refine' evalPart_none_step ?_ | with_reducible refine' evalPart_some_step ?_ | with_reducible refine' GM.lower ?_ | with_reducible refine' GM.find ?_ | (with_reducible refine' lt_int ?_) | with_reducible refine' r_eqStr ?_ | k_extra "tupS" | ((with_reducible refine' r_slNS ?q9G ?q9a ?q9b ?q9z ?_); (case q9G => assumption); (case q9a => with_unfolding_all rfl); (case q9b => intro _; with_unfolding_all rfl); (case q9z => k_extra "size"); intro _ _ _ _))))
    ((refine hQ _ _ ?_; (first | with_reducible refine' r_backS0 ?G ?k ?s | with_reducible refine' r_backS ?G ?k ?s); (case G => assumption)))
    case k => exact ⟨rfl, rfl⟩
    case s => k_extra "suf"

theorem sp_integer {x : Str} {u : Tok} {c : Nat} {i : Int} (hz : x.length ≤ 100) (h1 : [Str.ofString "+", Str.ofString "-"].any (· == Txt.slice x none (some 1)) = false) (h2 : (x == Str.ofString "") = false)
    (hl : Txt.lower x = x) (hlz : Builtin.Str.tooLong (Txt.lower x).length = false) (hc : x.cps[0]? = some c) (ha : x.cps.all (· < 128) = true) (hf : Txt.find (Str.ofString "0123456789abcdefghijklmnopqrstuvwxyz") ⟨#[c]⟩ = i) (hi : i < 0 ∨ 10 ≤ i)
    (hd : (Txt.slice x (some (-1)) none == Str.ofString ".") = false) :
    SP w p loose mean mg mb (.ref 35) [.str x u] 14 28 news (fun r nw => r = .none ∧ nw = news) := by
  ((unfold SP; k_fill; refine' Sp.def ?ho ?hcd ?hb ?hl ?h1 ?h2 ?h3 ?h4 ?_; (case ho | hcd => k_is); (case hb => first | exact fun _ _ => BindsTo.of_eq (binds := [(_, _)]) rfl | exact fun _ _ => BindsTo.of_eq (binds := [(_, _), (_, _)]) rfl | exact fun _ _ => BindsTo.of_eq (binds := [(_, _), (_, _), (_, _)]) rfl | exact fun _ _ => BindsTo.of_eq (binds := [(_, _), (_, _), (_, _), (_, _)]) rfl | exact fun _ _ => BindsTo.of_eq rfl); (case hl => exact locs rfl); (case h1 | h2 | h3 => exact rfl); (case h4 => decide); intro _ _ _ _ _ _ _ _ _ _ _ _ _ _; ((refine wpAny_hide ?_; intro _ hQ))))
  (repeat' ((first | k_extra "w" | with_reducible refine' UnaryOp_ ?_ | with_reducible refine' wpAny_Slice ?_ | with_reducible refine' evalPart_none_step ?_ | with_reducible refine' evalPart_some_step ?_ | (with_reducible refine' r_neg ?_ <;> intro _ _) | with_reducible refine' r_eqStr ?_ | ((with_reducible refine' r_slSN ?q9G ?q9a ?q9b ?q9z ?_); (case q9G => assumption); (case q9a => with_unfolding_all rfl); (case q9b => intro _; with_unfolding_all rfl); (case q9z => k_extra "size"); intro _ _ _ _))))
  refine use (sp_value hz h1 h2 hl hlz hc ha hf hi) ?_
  rintro v nw h' t' ⟨rfl, rfl⟩ G
  (repeat' ((first | k_extra "w" | with_reducible refine' UnaryOp_ ?_ | with_reducible refine' wpAny_Slice ?_ | with_reducible refine' evalPart_none_step ?_ | with_reducible refine' evalPart_some_step ?_ | (with_reducible refine' r_neg ?_ <;> intro _ _) | with_reducible refine' r_eqStr ?_ | ((with_reducible refine' r_slSN ?q9G ?q9a ?q9b ?q9z ?_); (case q9G => assumption); (case q9a => with_unfolding_all rfl); (case q9b => intro _; with_unfolding_all rfl); (case q9z => k_extra "size"); intro _ _ _ _))))
  ((refine hQ _ _ ?_; (first | with_reducible refine' r_backS0 ?G ?k ?s | with_reducible refine' r_backS ?G ?k ?s); (case G => assumption)))
  case k => exact ⟨rfl, rfl⟩
  case s => k_extra "suf"
def dig (c : Nat) : Bool := !(Builtin.Str.occurrences (Str.ofString "0123456789") ⟨#[c]⟩ 0 (Str.ofString "0123456789").length 1).isEmpty
theorem bools_snoc {vs : List Value} {bs : List Bool} (h : LSm.BoolsAre vs bs) (b : Bool) : LSm.BoolsAre (vs ++ [.bool b]) (bs ++ [b]) := by
  induction h with
  | nil => exact .cons b .nil
  | cons c r ih => exact .cons c ih
theorem sp_figs {x : Str} {u : Tok} (hz : x.length ≤ 100) (h2 : (x == Str.ofString "") = false) (hd : (x.cps.toList.map dig).all id = false) :
    SP w p loose mean mg mb (.ref 40) [.str x u] 14 28 news (fun r nw => r = .bool false ∧ nw = news) := by
  have h3 : (x != Str.ofString "") = true := by simp [bne, h2]
  ((unfold SP; k_fill; refine' Sp.def ?ho ?hcd ?hb ?hl ?h1 ?h2 ?h3 ?h4 ?_; (case ho | hcd => k_is); (case hb => first | exact fun _ _ => BindsTo.of_eq (binds := [(_, _)]) rfl | exact fun _ _ => BindsTo.of_eq (binds := [(_, _), (_, _)]) rfl | exact fun _ _ => BindsTo.of_eq (binds := [(_, _), (_, _), (_, _)]) rfl | exact fun _ _ => BindsTo.of_eq (binds := [(_, _), (_, _), (_, _), (_, _)]) rfl | exact fun _ _ => BindsTo.of_eq rfl); (case hl => exact locs rfl); (case h1 | h2 | h3 => exact rfl); (case h4 => decide); intro _ _ _ _ _ _ _ _ _ _ _ _ _ _; ((refine wpAny_hide ?_; intro _ hQ))))
  (repeat' ((first | k_extra "w" | ((with_reducible refine' wpAny_Compare1 ?_ ?q9hm); (case q9hm => with_unfolding_all rfl)) | with_reducible refine' r_band ?_ | with_reducible refine' BoolOp_one ?_ | ((with_reducible refine' r_lc ?q9c ?q9k ?q9n ?q9s ?_); (case q9c | q9k => exact rfl); (case q9n => decide); (case q9s => (intro _; exact rfl))) | ((with_reducible refine' r_gL ?q9G ?q9n ?q9m ?q9v ?q9a ?q9b ?q9c ?_); (case q9G | q9n => assumption); (case q9m => k_extra "mem"); (case q9v => assumption); (case q9a | q9b => exact rfl); (case q9c => decide)) | with_reducible refine' r_neStr ?_ | with_reducible refine' r_inStr ?_)))
  refine cmp_str (fun i ys nw => nw = news ∧ LSm.BoolsAre ys ((x.cps.toList.take i).map dig)) (by decide) rfl rfl (Ar.hd (by assumption)) (by assumption) (show x.cps.size ≤ sizeLine by have := sizeLine_eq; have : x.cps.size ≤ 100 := hz; omega) ⟨rfl, .nil⟩ ?_ (endK_none ?_)
  · rintro i v ys nw I oI C oC D m₂ h t hi ⟨c, u, hc, rfl⟩ ⟨rfl, hj⟩ hn hm G
    (repeat' ((first | k_extra "w" | ((with_reducible refine' wpAny_Compare1 ?_ ?q9hm); (case q9hm => with_unfolding_all rfl)) | with_reducible refine' r_band ?_ | with_reducible refine' BoolOp_one ?_ | ((with_reducible refine' r_lc ?q9c ?q9k ?q9n ?q9s ?_); (case q9c | q9k => exact rfl); (case q9n => decide); (case q9s => (intro _; exact rfl))) | ((with_reducible refine' r_gL ?q9G ?q9n ?q9m ?q9v ?q9a ?q9b ?q9c ?_); (case q9G | q9n => assumption); (case q9m => k_extra "mem"); (case q9v => assumption); (case q9a | q9b => exact rfl); (case q9c => decide)) | with_reducible refine' r_neStr ?_ | with_reducible refine' r_inStr ?_)))
    refine ⟨_, _, _, rfl, by assumption, rfl, ?_⟩
    have hc' : x.cps.toList[i]? = some c := by simpa using hc
    rw [List.take_add_one, hc', List.map_append]
    exact bools_snoc hj _
  · rintro D h t ys nw G ⟨rfl, hj⟩
    have e : x.cps.toList.take x.cps.size = x.cps.toList := List.take_of_length_le (by simp)
    rw [e] at hj
    (repeat' ((first | k_extra "w" | ((with_reducible refine' wpAny_Compare1 ?_ ?q9hm); (case q9hm => with_unfolding_all rfl)) | with_reducible refine' r_band ?_ | with_reducible refine' BoolOp_one ?_ | ((with_reducible refine' r_lc ?q9c ?q9k ?q9n ?q9s ?_); (case q9c | q9k => exact rfl); (case q9n => decide); (case q9s => (intro _; exact rfl))) | ((with_reducible refine' r_gL ?q9G ?q9n ?q9m ?q9v ?q9a ?q9b ?q9c ?_); (case q9G | q9n => assumption); (case q9m => k_extra "mem"); (case q9v => assumption); (case q9a | q9b => exact rfl); (case q9c => decide)) | with_reducible refine' r_neStr ?_ | with_reducible refine' r_inStr ?_)))
    refine r_all (by assumption) (by assumption) (.head _) hj fun h' t' G => ?_
    rw [hd]
    (repeat' ((first | k_extra "w" | ((with_reducible refine' wpAny_Compare1 ?_ ?q9hm); (case q9hm => with_unfolding_all rfl)) | with_reducible refine' r_band ?_ | with_reducible refine' BoolOp_one ?_ | ((with_reducible refine' r_lc ?q9c ?q9k ?q9n ?q9s ?_); (case q9c | q9k => exact rfl); (case q9n => decide); (case q9s => (intro _; exact rfl))) | ((with_reducible refine' r_gL ?q9G ?q9n ?q9m ?q9v ?q9a ?q9b ?q9c ?_); (case q9G | q9n => assumption); (case q9m => k_extra "mem"); (case q9v => assumption); (case q9a | q9b => exact rfl); (case q9c => decide)) | with_reducible refine' r_neStr ?_ | with_reducible refine' r_inStr ?_)))
    ((refine hQ _ _ ?_; (first | with_reducible refine' r_backS0 ?G ?k ?s | with_reducible refine' r_backS ?G ?k ?s); (case G => assumption)))
    case k => exact ⟨rfl, rfl⟩
    case s => k_extra "suf"
theorem sp_float {x y a b c d e : Str} {u : Tok} (hz : x.length ≤ 100) (h1 : [Str.ofString "+", Str.ofString "-"].any (· == Txt.slice x none (some 1)) = false)
    (hl : Txt.lower x = x) (hlz : Builtin.Str.tooLong (Txt.lower x).length = false) (ha : Txt.partition x (Str.ofString "e") = (y, a, b)) (hy : y.length ≤ 100) (hb : Txt.partition y (Str.ofString ".") = (c, d, e)) (hcz : c.length + e.length ≤ 100)
    (h2 : ((c ++ e) == Str.ofString "") = false) (hd : ((c ++ e).cps.toList.map dig).all id = false) :
    SP w p loose mean mg mb (.ref 54) [.str x u] 18 34 news (fun r nw => r = .bool false ∧ nw = news) := by
  ((unfold SP; k_fill; refine' Sp.def ?ho ?hcd ?hb ?hl ?h1 ?h2 ?h3 ?h4 ?_; (case ho | hcd => k_is); (case hb => first | exact fun _ _ => BindsTo.of_eq (binds := [(_, _)]) rfl | exact fun _ _ => BindsTo.of_eq (binds := [(_, _), (_, _)]) rfl | exact fun _ _ => BindsTo.of_eq (binds := [(_, _), (_, _), (_, _)]) rfl | exact fun _ _ => BindsTo.of_eq (binds := [(_, _), (_, _), (_, _), (_, _)]) rfl | exact fun _ _ => BindsTo.of_eq rfl); (case hl => exact locs rfl); (case h1 | h2 | h3 => exact rfl); (case h4 => decide); intro _ _ _ _ _ _ _ _ _ _ _ _ _ _; ((refine wpAny_hide ?_; intro _ hQ))))
  (repeat' ((first | k_extra "w" | with_reducible refine Constant_bool ?_ | with_reducible refine' wpAny_Slice ?_ | ((with_reducible refine' Assign_Tuple ?_ ?q9hs ?q9hw); (case q9hs | q9hw => exact rfl)) | ((with_reducible refine' r_unp3 ?q9a ?q9G ?q9m ?_); (case q9a | q9G => assumption); (case q9m => k_extra "mem"); intro _ _) | with_reducible refine' r_cwB0 ?_ | with_reducible refine' evalPart_none_step ?_ | with_reducible refine' evalPart_some_step ?_ | with_reducible refine' GM.lower ?_ | with_reducible refine' GM.partition ?_ | k_extra "tupS" | ((with_reducible refine' r_addStr ?q9z ?_); (case q9z => k_extra "size"); intro _ _) | ((with_reducible refine' r_slNS ?q9G ?q9a ?q9b ?q9z ?_); (case q9G => assumption); (case q9a => with_unfolding_all rfl); (case q9b => intro _; with_unfolding_all rfl); (case q9z => k_extra "size"); intro _ _ _ _))))
  refine r_lower hl hlz fun u' t' => ?_
  (repeat' ((first | k_extra "w" | with_reducible refine Constant_bool ?_ | with_reducible refine' wpAny_Slice ?_ | ((with_reducible refine' Assign_Tuple ?_ ?q9hs ?q9hw); (case q9hs | q9hw => exact rfl)) | ((with_reducible refine' r_unp3 ?q9a ?q9G ?q9m ?_); (case q9a | q9G => assumption); (case q9m => k_extra "mem"); intro _ _) | with_reducible refine' r_cwB0 ?_ | with_reducible refine' evalPart_none_step ?_ | with_reducible refine' evalPart_some_step ?_ | with_reducible refine' GM.lower ?_ | with_reducible refine' GM.partition ?_ | k_extra "tupS" | ((with_reducible refine' r_addStr ?q9z ?_); (case q9z => k_extra "size"); intro _ _) | ((with_reducible refine' r_slNS ?q9G ?q9a ?q9b ?q9z ?_); (case q9G => assumption); (case q9a => with_unfolding_all rfl); (case q9b => intro _; with_unfolding_all rfl); (case q9z => k_extra "size"); intro _ _ _ _))))
  refine r_partition (p := y) (q := a) (r := b) (by assumption) rfl (by rw [ha]) (by rw [ha]) (by rw [ha]) (by k_extra "size") fun D ta tb tc h' t' G => ?_
  (repeat' ((first | k_extra "w" | with_reducible refine Constant_bool ?_ | with_reducible refine' wpAny_Slice ?_ | ((with_reducible refine' Assign_Tuple ?_ ?q9hs ?q9hw); (case q9hs | q9hw => exact rfl)) | ((with_reducible refine' r_unp3 ?q9a ?q9G ?q9m ?_); (case q9a | q9G => assumption); (case q9m => k_extra "mem"); intro _ _) | with_reducible refine' r_cwB0 ?_ | with_reducible refine' evalPart_none_step ?_ | with_reducible refine' evalPart_some_step ?_ | with_reducible refine' GM.lower ?_ | with_reducible refine' GM.partition ?_ | k_extra "tupS" | ((with_reducible refine' r_addStr ?q9z ?_); (case q9z => k_extra "size"); intro _ _) | ((with_reducible refine' r_slNS ?q9G ?q9a ?q9b ?q9z ?_); (case q9G => assumption); (case q9a => with_unfolding_all rfl); (case q9b => intro _; with_unfolding_all rfl); (case q9z => k_extra "size"); intro _ _ _ _))))
  refine r_partition (p := c) (q := d) (r := e) (by assumption) rfl (by rw [hb]) (by rw [hb]) (by rw [hb]) (by k_extra "size") fun D ta tb tc h' t' G => ?_
  (repeat' ((first | k_extra "w" | with_reducible refine Constant_bool ?_ | with_reducible refine' wpAny_Slice ?_ | ((with_reducible refine' Assign_Tuple ?_ ?q9hs ?q9hw); (case q9hs | q9hw => exact rfl)) | ((with_reducible refine' r_unp3 ?q9a ?q9G ?q9m ?_); (case q9a | q9G => assumption); (case q9m => k_extra "mem"); intro _ _) | with_reducible refine' r_cwB0 ?_ | with_reducible refine' evalPart_none_step ?_ | with_reducible refine' evalPart_some_step ?_ | with_reducible refine' GM.lower ?_ | with_reducible refine' GM.partition ?_ | k_extra "tupS" | ((with_reducible refine' r_addStr ?q9z ?_); (case q9z => k_extra "size"); intro _ _) | ((with_reducible refine' r_slNS ?q9G ?q9a ?q9b ?q9z ?_); (case q9G => assumption); (case q9a => with_unfolding_all rfl); (case q9b => intro _; with_unfolding_all rfl); (case q9z => k_extra "size"); intro _ _ _ _))))
  refine use (sp_figs (by show (c ++ e).length ≤ 100; rw [PySem.Str.length_append]; omega) h2 hd) ?_
  rintro v nw h' t' ⟨rfl, rfl⟩ G
  (repeat' ((first | k_extra "w" | with_reducible refine Constant_bool ?_ | with_reducible refine' wpAny_Slice ?_ | ((with_reducible refine' Assign_Tuple ?_ ?q9hs ?q9hw); (case q9hs | q9hw => exact rfl)) | ((with_reducible refine' r_unp3 ?q9a ?q9G ?q9m ?_); (case q9a | q9G => assumption); (case q9m => k_extra "mem"); intro _ _) | with_reducible refine' r_cwB0 ?_ | with_reducible refine' evalPart_none_step ?_ | with_reducible refine' evalPart_some_step ?_ | with_reducible refine' GM.lower ?_ | with_reducible refine' GM.partition ?_ | k_extra "tupS" | ((with_reducible refine' r_addStr ?q9z ?_); (case q9z => k_extra "size"); intro _ _) | ((with_reducible refine' r_slNS ?q9G ?q9a ?q9b ?q9z ?_); (case q9G => assumption); (case q9a => with_unfolding_all rfl); (case q9b => intro _; with_unfolding_all rfl); (case q9z => k_extra "size"); intro _ _ _ _))))
  ((refine hQ _ _ ?_; (first | with_reducible refine' r_backS0 ?G ?k ?s | with_reducible refine' r_backS ?G ?k ?s); (case G => assumption)))
  case k => exact ⟨rfl, rfl⟩
  case s => k_extra "suf"
/-- a word that reads as no number -/
structure Wd (x : Str) : Prop where
  len : x.length ≤ 100
  first : [Str.ofString "+", Str.ofString "-"].any (· == Txt.slice x none (some 1)) = false
  ne : (x == Str.ofString "") = false
  low : Txt.lower x = x
  asc : x.cps.all (· < 128) = true
  fig : ∃ c, x.cps[0]? = some c ∧ (Txt.find (Str.ofString "0123456789abcdefghijklmnopqrstuvwxyz") ⟨#[c]⟩ < 0 ∨ 10 ≤ Txt.find (Str.ofString "0123456789abcdefghijklmnopqrstuvwxyz") ⟨#[c]⟩)
  end_ : (Txt.slice x (some (-1)) none == Str.ofString ".") = false
  dot : (x == Str.ofString ".") = false
  y : (Txt.partition x (Str.ofString "e")).1.length ≤ 100
  c : (Txt.partition (Txt.partition x (Str.ofString "e")).1 (Str.ofString ".")).1.length + (Txt.partition (Txt.partition x (Str.ofString "e")).1 (Str.ofString ".")).2.2.length ≤ 100
  nb : (((Txt.partition (Txt.partition x (Str.ofString "e")).1 (Str.ofString ".")).1 ++ (Txt.partition (Txt.partition x (Str.ofString "e")).1 (Str.ofString ".")).2.2) == Str.ofString "") = false
  nd : (((Txt.partition (Txt.partition x (Str.ofString "e")).1 (Str.ofString ".")).1 ++ (Txt.partition (Txt.partition x (Str.ofString "e")).1 (Str.ofString ".")).2.2).cps.toList.map dig).all id = false
theorem sy_wd (s : Sy) : Wd s.name := by
  cases s with
  | nil => exact ⟨by decide +kernel, by decide +kernel, by decide +kernel, by decide +kernel, by decide +kernel, ⟨110, by decide +kernel, by decide +kernel⟩, by decide +kernel, by decide +kernel, by decide +kernel, by decide +kernel, by decide +kernel, by decide +kernel⟩
  | a => exact ⟨by decide +kernel, by decide +kernel, by decide +kernel, by decide +kernel, by decide +kernel, ⟨97, by decide +kernel, by decide +kernel⟩, by decide +kernel, by decide +kernel, by decide +kernel, by decide +kernel, by decide +kernel, by decide +kernel⟩
  | quote => exact ⟨by decide +kernel, by decide +kernel, by decide +kernel, by decide +kernel, by decide +kernel, ⟨113, by decide +kernel, by decide +kernel⟩, by decide +kernel, by decide +kernel, by decide +kernel, by decide +kernel, by decide +kernel, by decide +kernel⟩
  | func => exact ⟨by decide +kernel, by decide +kernel, by decide +kernel, by decide +kernel, by decide +kernel, ⟨102, by decide +kernel, by decide +kernel⟩, by decide +kernel, by decide +kernel, by decide +kernel, by decide +kernel, by decide +kernel, by decide +kernel⟩
  | splice => exact ⟨by decide +kernel, by decide +kernel, by decide +kernel, by decide +kernel, by decide +kernel, ⟨44, by decide +kernel, by decide +kernel⟩, by decide +kernel, by decide +kernel, by decide +kernel, by decide +kernel, by decide +kernel, by decide +kernel⟩
theorem sp_conf {x : Str} {u : Tok} (W : Wd x) : SP w p loose mean mg mb (.ref 335) [.str x u] 20 40 news (fun r nw => r = .bool false ∧ nw = news) := by
  ((unfold SP; k_fill; refine' Sp.def ?ho ?hcd ?hb ?hl ?h1 ?h2 ?h3 ?h4 ?_; (case ho | hcd => k_is); (case hb => first | exact fun _ _ => BindsTo.of_eq (binds := [(_, _)]) rfl | exact fun _ _ => BindsTo.of_eq (binds := [(_, _), (_, _)]) rfl | exact fun _ _ => BindsTo.of_eq (binds := [(_, _), (_, _), (_, _)]) rfl | exact fun _ _ => BindsTo.of_eq (binds := [(_, _), (_, _), (_, _), (_, _)]) rfl | exact fun _ _ => BindsTo.of_eq rfl); (case hl => exact locs rfl); (case h1 | h2 | h3 => exact rfl); (case h4 => decide); intro _ _ _ _ _ _ _ _ _ _ _ _ _ _; ((refine wpAny_hide ?_; intro _ hQ))))
  (repeat' ((first | k_extra "w" | with_reducible refine Constant_none ?_ | ((with_reducible refine' wpAny_Compare1 ?_ ?q9hm); (case q9hm => with_unfolding_all rfl)) | with_reducible refine' r_bor ?_ | with_reducible refine' BoolOp_one ?_ | with_reducible refine' r_isnotNoneNone ?_ | with_reducible refine' r_eqStr ?_)))
  obtain ⟨c, hc, hi⟩ := W.fig
  have hlz : Builtin.Str.tooLong (Txt.lower x).length = false := by
    rw [W.low]; have := W.len; have := sizeLine_eq; exact decide_eq_false (by k_extra "le")
  refine use (sp_integer W.len W.first W.ne W.low hlz hc W.asc rfl hi W.end_) ?_
  rintro v nw h' t' ⟨rfl, rfl⟩ G
  (repeat' ((first | k_extra "w" | with_reducible refine Constant_none ?_ | ((with_reducible refine' wpAny_Compare1 ?_ ?q9hm); (case q9hm => with_unfolding_all rfl)) | with_reducible refine' r_bor ?_ | with_reducible refine' BoolOp_one ?_ | with_reducible refine' r_isnotNoneNone ?_ | with_reducible refine' r_eqStr ?_)))
  refine use (sp_float W.len W.first W.low hlz rfl W.y rfl W.c W.nb W.nd) ?_
  rintro v nw h' t' ⟨rfl, rfl⟩ G
  have hdot := W.dot
  (repeat' ((first | k_extra "w" | with_reducible refine Constant_none ?_ | ((with_reducible refine' wpAny_Compare1 ?_ ?q9hm); (case q9hm => with_unfolding_all rfl)) | with_reducible refine' r_bor ?_ | with_reducible refine' BoolOp_one ?_ | with_reducible refine' r_isnotNoneNone ?_ | with_reducible refine' r_eqStr ?_)))
  ((refine hQ _ _ ?_; (first | with_reducible refine' r_backS0 ?G ?k ?s | with_reducible refine' r_backS ?G ?k ?s); (case G => assumption)))
  case k => exact ⟨by rw [hdot], rfl⟩
  case s => k_extra "suf"
theorem sp_figures {n : Int} {u : Tok} (hn : n.natAbs < 10) : SP w p loose mean mg mb (.ref 328) [.int n u] 14 28 news (fun r nw => ∃ u, r = .str (Str.ofString (toString n)) u ∧ nw = news) := by
  ((unfold SP; k_fill; refine' Sp.def ?ho ?hcd ?hb ?hl ?h1 ?h2 ?h3 ?h4 ?_; (case ho | hcd => k_is); (case hb => first | exact fun _ _ => BindsTo.of_eq (binds := [(_, _)]) rfl | exact fun _ _ => BindsTo.of_eq (binds := [(_, _), (_, _)]) rfl | exact fun _ _ => BindsTo.of_eq (binds := [(_, _), (_, _), (_, _)]) rfl | exact fun _ _ => BindsTo.of_eq (binds := [(_, _), (_, _), (_, _), (_, _)]) rfl | exact fun _ _ => BindsTo.of_eq rfl); (case hl => exact locs rfl); (case h1 | h2 | h3 => exact rfl); (case h4 => decide); intro _ _ _ _ _ _ _ _ _ _ _ _ _ _; ((refine wpAny_hide ?_; intro _ hQ))))
  (repeat' ((first | k_extra "w" | (with_reducible refine' r_abs ?_ <;> intro _ _) | (with_reducible refine' lt_int ?_) | ((with_reducible refine' r_pow ?q9a ?q9b ?q9c ?q9e ?_); (case q9a | q9b | q9c | q9e => decide); intro _ _ _ _))))
  have hlog : n.natAbs.log2 < 1920 := by have := Nat.log2_le_self n.natAbs; omega
  refine r_strInt hlog fun u' t' => ?_
  (repeat' ((first | k_extra "w" | (with_reducible refine' r_abs ?_ <;> intro _ _) | (with_reducible refine' lt_int ?_) | ((with_reducible refine' r_pow ?q9a ?q9b ?q9c ?q9e ?_); (case q9a | q9b | q9c | q9e => decide); intro _ _ _ _))))
  ((refine hQ _ _ ?_; (first | with_reducible refine' r_backS0 ?G ?k ?s | with_reducible refine' r_backS ?G ?k ?s); (case G => assumption)))
  case k => exact ⟨_, rfl, rfl⟩
  case s => k_extra "suf"
theorem sp_whole_int {n : Int} {u : Tok} : SP w p loose mean mg mb (.ref 237) [.int n u] 14 28 news (fun r nw => r = .bool true ∧ nw = news) := by
  ((unfold SP; k_fill; refine' Sp.def ?ho ?hcd ?hb ?hl ?h1 ?h2 ?h3 ?h4 ?_; (case ho | hcd => k_is); (case hb => first | exact fun _ _ => BindsTo.of_eq (binds := [(_, _)]) rfl | exact fun _ _ => BindsTo.of_eq (binds := [(_, _), (_, _)]) rfl | exact fun _ _ => BindsTo.of_eq (binds := [(_, _), (_, _), (_, _)]) rfl | exact fun _ _ => BindsTo.of_eq (binds := [(_, _), (_, _), (_, _), (_, _)]) rfl | exact fun _ _ => BindsTo.of_eq rfl); (case hl => exact locs rfl); (case h1 | h2 | h3 => exact rfl); (case h4 => decide); intro _ _ _ _ _ _ _ _ _ _ _ _ _ _; ((refine wpAny_hide ?_; intro _ hQ))))
  (repeat' ((first | k_extra "w" | with_reducible refine' r_band ?_ | with_reducible refine' BoolOp_one ?_ | with_reducible refine' UnaryOp_ ?_ | ((with_reducible refine' r_isiInt ?q9G ?q9X ?q9e ?_); (case q9G | q9X => assumption); (case q9e => kit_is); intro _) | with_reducible refine' not_of ?_)))
  ((refine hQ _ _ ?_; (first | with_reducible refine' r_backS0 ?G ?k ?s | with_reducible refine' r_backS ?G ?k ?s); (case G => assumption)))
  case k => exact ⟨rfl, rfl⟩
  case s => k_extra "suf"
theorem sp_whole_obj {x C : Addr} {es : List DictEntry} (I : InsIn (fr.heap_1 w.params) news x C es) (ok : IOk (fr.heap_1 w.params) C) (e1 : kitOne (fr.heap_1 w.params) (.ref C) (.type "int") = some false) : SP w p loose mean mg mb (.ref 237) [.ref x] 14 28 news (fun r nw => r = .bool false ∧ nw = news) := by
  ((unfold SP; k_fill; refine' Sp.def ?ho ?hcd ?hb ?hl ?h1 ?h2 ?h3 ?h4 ?_; (case ho | hcd => k_is); (case hb => first | exact fun _ _ => BindsTo.of_eq (binds := [(_, _)]) rfl | exact fun _ _ => BindsTo.of_eq (binds := [(_, _), (_, _)]) rfl | exact fun _ _ => BindsTo.of_eq (binds := [(_, _), (_, _), (_, _)]) rfl | exact fun _ _ => BindsTo.of_eq (binds := [(_, _), (_, _), (_, _), (_, _)]) rfl | exact fun _ _ => BindsTo.of_eq rfl); (case hl => exact locs rfl); (case h1 | h2 | h3 => exact rfl); (case h4 => decide); intro _ _ _ _ _ _ _ _ _ _ _ _ _ _; ((refine wpAny_hide ?_; intro _ hQ))))
  (repeat' ((first | k_extra "w" | with_reducible refine' r_band ?_)))
  ((refine hQ _ _ ?_; (first | with_reducible refine' r_backS0 ?G ?k ?s | with_reducible refine' r_backS ?G ?k ?s); (case G => assumption)))
  case k => exact ⟨rfl, rfl⟩
  case s => k_extra "suf"
end
section
variable {w : World} {p : Program} {loose : List Str} {mean : ExcName → Option Value} {mg mb : Str → Option Value} {news : List (Addr × Obj)}
def spec : List Int := [34, 92, 39, 59, 35, 40, 41, 44, 96, 91, 93]
def esc (c : Int) : List Int := if spec.any (· == c) then [92, c] else [c]
theorem sp_symcodes {x oA : Addr} {k k2 : Nat → Int} {t t2 : Nat → Tok} {num : Int} {nm : Str} {ob len lev qu : Value} (I : InsIn (fr.heap_1 w.params) news x 71 (syE k t num nm)) (O : InsIn (fr.heap_1 w.params) news oA 312 (opE k2 t2 len lev qu))
    (W : Wd nm) (hc : ∀ c ∈ codesOf nm, spec.any (· == c) = true ∨ (spec.any (· == c) = false ∧ 32 < c ∧ c ≠ 160 ∧ c ≠ 63)) (hn : codesOf nm ≠ []) :
    SP w p loose mean mg mb (.ref 342) [.ref x, ob, .ref oA] 24 90 news (fun r nw => ∃ D vs n, r = .ref D ∧ nw = (D, listOf vs.toArray n) :: news ∧ IntsAre vs ((codesOf nm).flatMap esc)) := by
  have hz : nm.cps.size ≤ sizeLine := by have := W.len; have := sizeLine_eq; show nm.length ≤ _; omega
  have hl : (codesOf nm).length = nm.cps.size := by simp [codesOf]
  have hl1 : nm.cps.size ≤ 100 := W.len
  ((unfold SP; k_fill; refine' Sp.def ?ho ?hcd ?hb ?hl ?h1 ?h2 ?h3 ?h4 ?_; (case ho | hcd => k_is); (case hb => first | exact fun _ _ => BindsTo.of_eq (binds := [(_, _)]) rfl | exact fun _ _ => BindsTo.of_eq (binds := [(_, _), (_, _)]) rfl | exact fun _ _ => BindsTo.of_eq (binds := [(_, _), (_, _), (_, _)]) rfl | exact fun _ _ => BindsTo.of_eq (binds := [(_, _), (_, _), (_, _), (_, _)]) rfl | exact fun _ _ => BindsTo.of_eq rfl); (case hl => exact locs rfl); (case h1 | h2 | h3 => exact rfl); (case h4 => decide); intro _ _ _ _ _ _ _ _ _ _ _ _ _ _; ((refine wpAny_hide ?_; intro _ hQ))))
  (repeat' ((first | k_extra "w" | ((with_reducible refine' wpAny_Compare1 ?_ ?q9hm); (case q9hm => with_unfolding_all rfl)) | with_reducible refine' r_band ?_ | with_reducible refine isTrue_or_nil ?_ | ((with_reducible refine' r_range1 ?q9G ?_); (case q9G => assumption); intro _ _ _ _ _ _) | (with_reducible refine' le_int ?_))))
  refine use (sp_codes hz) ?_
  rintro v nw h' t' ⟨N, ns, n, rfl, rfl, hns⟩ G
  have hln : ns.length = nm.cps.size := by rw [← hl]; exact hns.length
  (repeat' ((first | k_extra "w" | ((with_reducible refine' wpAny_Compare1 ?_ ?q9hm); (case q9hm => with_unfolding_all rfl)) | with_reducible refine' r_band ?_ | with_reducible refine isTrue_or_nil ?_ | ((with_reducible refine' r_range1 ?q9G ?_); (case q9G => assumption); intro _ _ _ _ _ _) | (with_reducible refine' le_int ?_))))
  refine r_eqInts (by assumption) (by decide) (by assumption) (by k_extra "mem") (by k_extra "mem") hns .nil ?_
  rw [decide_eq_false hn]
  (repeat' ((first | k_extra "w" | ((with_reducible refine' wpAny_Compare1 ?_ ?q9hm); (case q9hm => with_unfolding_all rfl)) | with_reducible refine' r_band ?_ | with_reducible refine isTrue_or_nil ?_ | ((with_reducible refine' r_range1 ?q9G ?_); (case q9G => assumption); intro _ _ _ _ _ _) | (with_reducible refine' le_int ?_))))
  refine use (sp_conf W) ?_
  rintro v nw h' t' ⟨rfl, rfl⟩ G
  (repeat' ((first | k_extra "w" | ((with_reducible refine' wpAny_Compare1 ?_ ?q9hm); (case q9hm => with_unfolding_all rfl)) | with_reducible refine' r_band ?_ | with_reducible refine isTrue_or_nil ?_ | ((with_reducible refine' r_range1 ?q9G ?_); (case q9G => assumption); intro _ _ _ _ _ _) | (with_reducible refine' le_int ?_))))
  rename_i F _ _ _ _ _ l0 _ _ _ _ _ _ _ _ r _ _ _ _ _
  refine r_forRange (n := nm.cps.size) (fun i m nw => (∃ vs q, nw = (r, rgObj 0 ns.length 1 _ _ _) :: (l0, listOf #[] 0) :: (F, listOf vs.toArray q) :: (N, listOf ns.toArray n) :: news ∧ IntsAre vs (((codesOf nm).take i).flatMap esc)) ∧
    m (Str.ofString "found") = some (.ref F) ∧ m (Str.ofString "name") = some (.ref N) ∧ m (Str.ofString "is_turned") = some (.bool false)) (by assumption) rfl rfl (by assumption) (.head _) (small_nat (by k_extra "le")) (by rw [size_up (by k_extra "le"), hln]; simp) ⟨⟨[], 0, rfl, .nil⟩, rfl, rfl, rfl⟩ ?_ ?_
  · rintro I i h t m nw u oI hi ⟨⟨vs, q, rfl, hv⟩, m1, m2, m3⟩ G
    refine wpAny_hide fun Q8 hT => ?_
    (repeat' ((first | k_extra "w" | ((with_reducible refine' wpAny_Compare1 ?_ ?q9hm); (case q9hm => with_unfolding_all rfl)) | with_reducible refine' r_band ?_ | with_reducible refine isTrue_or_nil ?_ | ((with_reducible refine' r_range1 ?q9G ?_); (case q9G => assumption); intro _ _ _ _ _ _) | (with_reducible refine' le_int ?_))))
    obtain ⟨c, uc, h1, h2⟩ := ints_get hns i (by k_extra "le")
    have hcm : c ∈ codesOf nm := List.mem_of_getElem? h2
    refine r_item (by assumption) (by k_extra "mem") (by k_extra "le") (by k_extra "le") (v := .int c uc) (by simpa using h1) (by with_unfolding_all rfl) ?_
    (repeat' ((first | k_extra "w" | ((with_reducible refine' wpAny_Compare1 ?_ ?q9hm); (case q9hm => with_unfolding_all rfl)) | with_reducible refine' r_band ?_ | with_reducible refine isTrue_or_nil ?_ | ((with_reducible refine' r_range1 ?q9G ?_); (case q9G => assumption); intro _ _ _ _ _ _) | (with_reducible refine' le_int ?_))))
    have hvl : vs.length ≤ 200 := by
      have e1 : vs.length = (((codesOf nm).take i).flatMap esc).length := hv.length
      have e2 : ∀ l : List Int, (l.flatMap esc).length ≤ 2 * l.length := by
        intro l
        induction l with
        | nil => simp
        | cons a l ih =>
          rw [List.flatMap_cons, List.length_append, List.length_cons]
          have : (esc a).length ≤ 2 := by unfold esc; split <;> simp
          omega
      have := e2 ((codesOf nm).take i)
      rw [List.length_take] at this
      omega
    have e9 : ((codesOf nm).take (i + 1)).flatMap esc = ((codesOf nm).take i).flatMap esc ++ esc c := by
      rw [List.take_add_one, h2, List.flatMap_append]; simp
    refine r_inTupKI (vs := [.int 34 _, .int 92 _, .int 39 _, .int 59 _, .int 35 _, .int 40 _, .int 41 _, .int 44 _, .int 96 _, .int 91 _, .int 93 _]) (ns := spec) (by assumption) (by assumption) (by k_is) (by k_extra "ints") ?_
    rcases hc c hcm with hs | ⟨hs, hb⟩
    · rw [hs]
      (repeat' ((first | k_extra "w" | ((with_reducible refine' wpAny_Compare1 ?_ ?q9hm); (case q9hm => with_unfolding_all rfl)) | with_reducible refine' r_band ?_ | with_reducible refine isTrue_or_nil ?_ | ((with_reducible refine' r_range1 ?q9G ?_); (case q9G => assumption); intro _ _ _ _ _ _) | (with_reducible refine' le_int ?_))))
      refine hT _ _ ?_
      k_extra "turned"
      refine ⟨⟨_, _, rfl, ?_⟩, m1, m2, m3⟩
      have e8 : esc c = [92, c] := by unfold esc; rw [hs]; rfl
      rw [e9, e8, List.append_assoc]
      exact ints_app hv (.cons _ _ (.cons _ _ .nil))
    · rw [hs]
      have e8 : esc c = [c] := by unfold esc; rw [hs]; rfl
      (repeat' ((first | k_extra "w" | ((with_reducible refine' wpAny_Compare1 ?_ ?q9hm); (case q9hm => with_unfolding_all rfl)) | with_reducible refine' r_band ?_ | with_reducible refine isTrue_or_nil ?_ | ((with_reducible refine' r_range1 ?q9G ?_); (case q9G => assumption); intro _ _ _ _ _ _) | (with_reducible refine' le_int ?_))))
      refine r_q_s (fun e => ?_) fun e => ?_ <;> (repeat' ((first | k_extra "w" | ((with_reducible refine' wpAny_Compare1 ?_ ?q9hm); (case q9hm => with_unfolding_all rfl)) | with_reducible refine' r_band ?_ | with_reducible refine isTrue_or_nil ?_ | ((with_reducible refine' r_range1 ?q9G ?_); (case q9G => assumption); intro _ _ _ _ _ _) | (with_reducible refine' le_int ?_))))
      · refine hT _ _ ?_
        k_extra "turned"
        refine ⟨⟨_, _, rfl, ?_⟩, m1, m2, m3⟩
        rw [e9, e8]
        exact ints_app hv (.cons _ _ .nil)
      · refine hT _ _ ?_
        k_extra "turned"
        refine ⟨⟨_, _, rfl, ?_⟩, m1, m2, m3⟩
        rw [e9, e8]
        exact ints_app hv (.cons _ _ .nil)
  · rintro h t m nw ⟨⟨vs, q, rfl, hv⟩, m1, m2, m3⟩ G
    (repeat' ((first | k_extra "w" | ((with_reducible refine' wpAny_Compare1 ?_ ?q9hm); (case q9hm => with_unfolding_all rfl)) | with_reducible refine' r_band ?_ | with_reducible refine isTrue_or_nil ?_ | ((with_reducible refine' r_range1 ?q9G ?_); (case q9G => assumption); intro _ _ _ _ _ _) | (with_reducible refine' le_int ?_))))
    ((refine hQ _ _ ?_; (first | with_reducible refine' r_backL0 ?G ?k ?s | with_reducible refine' r_backL ?G ?k ?s); (case G => assumption)))
    case k => exact ⟨F, vs, q, rfl, rfl, by rw [List.take_of_length_le (by k_extra "le")] at hv; exact hv⟩
    case s => k_extra "subl"
end
section
variable {w : World} {p : Program} {loose : List Str} {mean : ExcName → Option Value} {mg mb : Str → Option Value} {rest : List (Addr × Obj)}
/-- the printer's three lists ahead of the rest of the ledger -/
noncomputable abbrev PL (cA jA rA : Addr) (vs js ar : List Value) (n1 n2 n3 : Nat) (rest : List (Addr × Obj)) : List (Addr × Obj) := (cA, listOf vs.toArray n1) :: (jA, listOf js.toArray n2) :: (rA, listOf ar.toArray n3) :: rest
variable {pA cA jA rA oA : Addr} {ob lb len lev qu : Value} {vs js ar : List Value} {n1 n2 n3 : Nat} {k1 k2 : Nat → Int} {t1 t2 : Nat → Tok}
theorem sp_labelled {v : Value} (hp : InsIn (fr.heap_1 w.params) rest pA 429 (prE k1 t1 oA ob lb cA jA rA)) (ho : InsIn (fr.heap_1 w.params) rest oA 312 (opE k2 t2 len lev qu)) :
    SP w p loose mean mg mb (.ref 391) [.ref pA, v] 12 24 rest (fun r nw => r = .bool false ∧ nw = rest) := by
  ((unfold SP; k_fill; refine' Sp.def ?ho ?hcd ?hb ?hl ?h1 ?h2 ?h3 ?h4 ?_; (case ho | hcd => k_is); (case hb => first | exact fun _ _ => BindsTo.of_eq (binds := [(_, _)]) rfl | exact fun _ _ => BindsTo.of_eq (binds := [(_, _), (_, _)]) rfl | exact fun _ _ => BindsTo.of_eq (binds := [(_, _), (_, _), (_, _)]) rfl | exact fun _ _ => BindsTo.of_eq (binds := [(_, _), (_, _), (_, _), (_, _)]) rfl | exact fun _ _ => BindsTo.of_eq rfl); (case hl => exact locs rfl); (case h1 | h2 | h3 => exact rfl); (case h4 => decide); intro _ _ _ _ _ _ _ _ _ _ _ _ _ _; ((refine wpAny_hide ?_; intro _ hQ))))
  (repeat' ((first | k_extra "w" | with_reducible refine Constant_bool ?_)))
  ((refine hQ _ _ ?_; (first | with_reducible refine' r_backP0 ?G ?k ?s | with_reducible refine' r_backP ?G ?k ?s); (case G => assumption)))
  case k => exact ⟨rfl, rfl⟩
  case s => k_extra "sel"
theorem iok_sym : IOk (fr.heap_1 w.params) 71 := ⟨by k_is, by k_is, by k_is, by k_is, by k_is, by k_is⟩
theorem iok_cons : IOk (fr.heap_1 w.params) 98 := ⟨by k_is, by k_is, by k_is, by k_is, by k_is, by k_is⟩
theorem iok_vec : IOk (fr.heap_1 w.params) 141 := ⟨by k_is, by k_is, by k_is, by k_is, by k_is, by k_is⟩
theorem k71 : kitOne (fr.heap_1 w.params) (.ref 71) (.type "int") = some false := by kit_is
theorem k98 : kitOne (fr.heap_1 w.params) (.ref 98) (.type "int") = some false := by kit_is
theorem k141 : kitOne (fr.heap_1 w.params) (.ref 141) (.type "int") = some false := by kit_is
theorem ki71 : kitOne (fr.heap_1 w.params) (.type "int") (.ref 71) = some false := by kit_is
theorem k98s : kitOne (fr.heap_1 w.params) (.ref 98) (.ref 71) = some false := by kit_is
theorem k141s : kitOne (fr.heap_1 w.params) (.ref 141) (.ref 71) = some false := by kit_is
theorem k71s : kitOne (fr.heap_1 w.params) (.ref 71) (.ref 71) = some true := by kit_is
theorem ki98 : kitOne (fr.heap_1 w.params) (.type "int") (.ref 98) = some false := by kit_is
theorem k98c : kitOne (fr.heap_1 w.params) (.ref 98) (.ref 98) = some true := by kit_is
theorem k71c : kitOne (fr.heap_1 w.params) (.ref 71) (.ref 98) = some false := by kit_is
theorem k141c : kitOne (fr.heap_1 w.params) (.ref 141) (.ref 98) = some false := by kit_is
theorem nil_in {news : List (Addr × Obj)} : ∃ k t, InsIn (fr.heap_1 w.params) news 77 71 (syE k t 0 (Str.ofString "nil")) := ⟨fun i => [PyData.keyHash w.params (Str.ofString "number"), PyData.keyHash w.params (Str.ofString "name")].getD i 0, fun i => [283, 285, 277, 278].getD i 0, .own (by k_is) (by k_is)⟩
theorem sp_datum_int {n : Int} {u : Tok} (hn : n.natAbs < 10) (hz : (codesOf (Str.ofString (toString n))).length ≤ 10) (hp : InsIn (fr.heap_1 w.params) rest pA 429 (prE k1 t1 oA ob lb cA jA rA)) (hs : vs.length ≤ 1000000) :
    SP w p loose mean mg mb (.ref 384) [.ref pA, .int n u] 26 100 (PL cA jA rA vs js ar n1 n2 n3 rest) (fun r nw => r = .none ∧ ∃ vs' n1', nw = PL cA jA rA (vs ++ vs') js ar n1' n2 n3 rest ∧ IntsAre vs' (codesOf (Str.ofString (toString n)))) := by
  ((unfold SP; k_fill; refine' Sp.def ?ho ?hcd ?hb ?hl ?h1 ?h2 ?h3 ?h4 ?_; (case ho | hcd => k_is); (case hb => first | exact fun _ _ => BindsTo.of_eq (binds := [(_, _)]) rfl | exact fun _ _ => BindsTo.of_eq (binds := [(_, _), (_, _)]) rfl | exact fun _ _ => BindsTo.of_eq (binds := [(_, _), (_, _), (_, _)]) rfl | exact fun _ _ => BindsTo.of_eq (binds := [(_, _), (_, _), (_, _), (_, _)]) rfl | exact fun _ _ => BindsTo.of_eq rfl); (case hl => exact locs rfl); (case h1 | h2 | h3 => exact rfl); (case h4 => decide); intro _ _ _ _ _ _ _ _ _ _ _ _ _ _; ((refine wpAny_hide ?_; intro _ hQ))))
  (repeat' (k_extra "w"))
  refine use sp_whole_int ?_
  rintro v nw h' t' ⟨rfl, rfl⟩ G
  (repeat' (k_extra "w"))
  refine use (sp_figures hn) ?_
  rintro v nw h' t' ⟨u', rfl, rfl⟩ G
  (repeat' (k_extra "w"))
  have hzz : (codesOf (Str.ofString (toString n))).length = (Str.ofString (toString n)).cps.size := by simp [codesOf]
  refine use (sp_codes (by rw [← hzz]; have := sizeLine_eq; omega)) ?_
  rintro v nw h' t' ⟨D, cs, q, rfl, rfl, hcs⟩ G
  have hcl : cs.length ≤ 10 := by rw [hcs.length]; exact hz
  (repeat' (k_extra "w"))
  exact hQ _ _ <| r_backP0 (by assumption) ⟨rfl, cs, _, rfl, hcs⟩ (by k_extra "sel")
theorem sp_datum_sym {x : Addr} {k t : _} {num : Int} {nm : Str} (hx : InsIn (fr.heap_1 w.params) rest x 71 (syE k t num nm)) (W : Wd nm) (hc : ∀ c ∈ codesOf nm, spec.any (· == c) = true ∨ (spec.any (· == c) = false ∧ 32 < c ∧ c ≠ 160 ∧ c ≠ 63)) (hn : codesOf nm ≠ [])
    (hp : InsIn (fr.heap_1 w.params) rest pA 429 (prE k1 t1 oA ob lb cA jA rA)) (ho : InsIn (fr.heap_1 w.params) rest oA 312 (opE k2 t2 len lev qu)) (hs : vs.length ≤ 1000000) (hob : handedIn ob = true):
    SP w p loose mean mg mb (.ref 384) [.ref pA, .ref x] 26 100 (PL cA jA rA vs js ar n1 n2 n3 rest) (fun r nw => r = .none ∧ ∃ vs' n1', nw = PL cA jA rA (vs ++ vs') js ar n1' n2 n3 rest ∧ IntsAre vs' ((codesOf nm).flatMap esc)) := by
  ((unfold SP; k_fill; refine' Sp.def ?ho ?hcd ?hb ?hl ?h1 ?h2 ?h3 ?h4 ?_; (case ho | hcd => k_is); (case hb => first | exact fun _ _ => BindsTo.of_eq (binds := [(_, _)]) rfl | exact fun _ _ => BindsTo.of_eq (binds := [(_, _), (_, _)]) rfl | exact fun _ _ => BindsTo.of_eq (binds := [(_, _), (_, _), (_, _)]) rfl | exact fun _ _ => BindsTo.of_eq (binds := [(_, _), (_, _), (_, _), (_, _)]) rfl | exact fun _ _ => BindsTo.of_eq rfl); (case hl => exact locs rfl); (case h1 | h2 | h3 => exact rfl); (case h4 => decide); intro _ _ _ _ _ _ _ _ _ _ _ _ _ _; ((refine wpAny_hide ?_; intro _ hQ))))
  (repeat' (k_extra "w"))
  refine cal (by assumption) (sp_whole_obj (hx.mono (by k_extra "sub")) iok_sym k71) ?_
  rintro v nw h' t' ⟨rfl, rfl⟩ G
  (repeat' (k_extra "w"))
  refine cal (by assumption) (sp_symcodes (hx.mono (by k_extra "sub")) (ho.mono (by k_extra "sub")) W hc hn) ?_
  rintro v nw h' t' ⟨D, cs, q, rfl, rfl, hcs⟩ G
  have hcl : cs.length ≤ 200 := by
    rw [hcs.length]
    have e2 : ∀ l : List Int, (l.flatMap esc).length ≤ 2 * l.length := by
      intro l
      induction l with
      | nil => simp
      | cons a l ih =>
        rw [List.flatMap_cons, List.length_append, List.length_cons]
        have : (esc a).length ≤ 2 := by unfold esc; split <;> simp
        omega
    have := e2 (codesOf nm)
    have e3 : (codesOf nm).length ≤ 100 := by have h : nm.cps.size ≤ 100 := W.len; simpa [codesOf] using h
    omega
  (repeat' (k_extra "w"))
  exact hQ _ _ <| r_backP0 (by assumption) ⟨rfl, cs, _, rfl, hcs⟩ (by k_extra "sel")
end
section
variable {w : World} {p : Program} {loose : List Str} {mean : ExcName → Option Value} {mg mb : Str → Option Value} {news : List (Addr × Obj)}
variable {x y : Addr} {k k2 : Nat → Int} {t t2 : Nat → Tok} {car cdr car2 cdr2 : Value}
theorem sq_vec {l : Addr} (I : InsIn (fr.heap_1 w.params) news x 141 (veE k t l)) : SP w p loose mean mg mb (.ref 356) [.ref x] 14 28 news (fun r nw => ∃ u, r = .str (Str.ofString "") u ∧ nw = news) := by
  ((unfold SP; k_fill; refine' Sp.def ?ho ?hcd ?hb ?hl ?h1 ?h2 ?h3 ?h4 ?_; (case ho | hcd => k_is); (case hb => first | exact fun _ _ => BindsTo.of_eq (binds := [(_, _)]) rfl | exact fun _ _ => BindsTo.of_eq (binds := [(_, _), (_, _)]) rfl | exact fun _ _ => BindsTo.of_eq (binds := [(_, _), (_, _), (_, _)]) rfl | exact fun _ _ => BindsTo.of_eq (binds := [(_, _), (_, _), (_, _), (_, _)]) rfl | exact fun _ _ => BindsTo.of_eq rfl); (case hl => exact locs rfl); (case h1 | h2 | h3 => exact rfl); (case h4 => decide); intro _ _ _ _ _ _ _ _ _ _ _ _ _ _; ((refine wpAny_hide ?_; intro _ hQ))))
  (repeat' (k_extra "w"))
  exact hQ _ _ <| r_backP (by assumption) ⟨_, rfl, rfl⟩ (by k_extra "sel")
theorem sq_a (I : InsIn (fr.heap_1 w.params) news x 98 (coE k t car cdr)) (h1 : handedIn car = true) (h2 : handedIn cdr = true) (H : IsV (fr.heap_1 w.params) news car (.ref 71) false) :
    SP w p loose mean mg mb (.ref 356) [.ref x] 14 28 news (fun r nw => ∃ u, r = .str (Str.ofString "") u ∧ nw = news) := by
  ((unfold SP; k_fill; refine' Sp.def ?ho ?hcd ?hb ?hl ?h1 ?h2 ?h3 ?h4 ?_; (case ho | hcd => k_is); (case hb => first | exact fun _ _ => BindsTo.of_eq (binds := [(_, _)]) rfl | exact fun _ _ => BindsTo.of_eq (binds := [(_, _), (_, _)]) rfl | exact fun _ _ => BindsTo.of_eq (binds := [(_, _), (_, _), (_, _)]) rfl | exact fun _ _ => BindsTo.of_eq (binds := [(_, _), (_, _), (_, _), (_, _)]) rfl | exact fun _ _ => BindsTo.of_eq rfl); (case hl => exact locs rfl); (case h1 | h2 | h3 => exact rfl); (case h4 => decide); intro _ _ _ _ _ _ _ _ _ _ _ _ _ _; ((refine wpAny_hide ?_; intro _ hQ))))
  (repeat' (k_extra "w"))
  exact hQ _ _ <| r_backP (by assumption) ⟨_, rfl, rfl⟩ (by k_extra "sel")
theorem sq_b (I : InsIn (fr.heap_1 w.params) news x 98 (coE k t car cdr)) (h1 : handedIn car = true) (h2 : handedIn cdr = true) (H : IsV (fr.heap_1 w.params) news car (.ref 71) true) (H2 : IsV (fr.heap_1 w.params) news cdr (.ref 98) false) :
    SP w p loose mean mg mb (.ref 356) [.ref x] 14 28 news (fun r nw => ∃ u, r = .str (Str.ofString "") u ∧ nw = news) := by
  ((unfold SP; k_fill; refine' Sp.def ?ho ?hcd ?hb ?hl ?h1 ?h2 ?h3 ?h4 ?_; (case ho | hcd => k_is); (case hb => first | exact fun _ _ => BindsTo.of_eq (binds := [(_, _)]) rfl | exact fun _ _ => BindsTo.of_eq (binds := [(_, _), (_, _)]) rfl | exact fun _ _ => BindsTo.of_eq (binds := [(_, _), (_, _), (_, _)]) rfl | exact fun _ _ => BindsTo.of_eq (binds := [(_, _), (_, _), (_, _), (_, _)]) rfl | exact fun _ _ => BindsTo.of_eq rfl); (case hl => exact locs rfl); (case h1 | h2 | h3 => exact rfl); (case h4 => decide); intro _ _ _ _ _ _ _ _ _ _ _ _ _ _; ((refine wpAny_hide ?_; intro _ hQ))))
  (repeat' (k_extra "w"))
  exact hQ _ _ <| r_backP (by assumption) ⟨_, rfl, rfl⟩ (by k_extra "sel")
theorem sq_c (I : InsIn (fr.heap_1 w.params) news x 98 (coE k t car (.ref y))) (J : InsIn (fr.heap_1 w.params) news y 98 (coE k2 t2 car2 cdr2)) (h1 : handedIn car = true) (h2 : handedIn cdr2 = true) (H : IsV (fr.heap_1 w.params) news car (.ref 71) true)
    (H2 : (∃ u, cdr2 = .int 7 u) ∨ ∃ z es, cdr2 = .ref z ∧ InsIn (fr.heap_1 w.params) news z 98 es) :
    SP w p loose mean mg mb (.ref 356) [.ref x] 14 28 news (fun r nw => ∃ u, r = .str (Str.ofString "") u ∧ nw = news) := by
  ((unfold SP; k_fill; refine' Sp.def ?ho ?hcd ?hb ?hl ?h1 ?h2 ?h3 ?h4 ?_; (case ho | hcd => k_is); (case hb => first | exact fun _ _ => BindsTo.of_eq (binds := [(_, _)]) rfl | exact fun _ _ => BindsTo.of_eq (binds := [(_, _), (_, _)]) rfl | exact fun _ _ => BindsTo.of_eq (binds := [(_, _), (_, _), (_, _)]) rfl | exact fun _ _ => BindsTo.of_eq (binds := [(_, _), (_, _), (_, _), (_, _)]) rfl | exact fun _ _ => BindsTo.of_eq rfl); (case hl => exact locs rfl); (case h1 | h2 | h3 => exact rfl); (case h4 => decide); intro _ _ _ _ _ _ _ _ _ _ _ _ _ _; ((refine wpAny_hide ?_; intro _ hQ))))
  (repeat' ((first | k_extra "w" | with_reducible refine isTrue_or_nil ?_ | with_reducible refine' r_isnotIR ?_ | ((with_reducible refine' r_isnotCls ?q9G ?q9X ?q9I ?q9J ?q9c ?_); (case q9G | q9X => assumption); (case q9I | q9J => k_extra "ins"); (case q9c => decide)))))
  rcases H2 with ⟨u, rfl⟩ | ⟨z, es, rfl, Z⟩
  · (repeat' ((first | k_extra "w" | with_reducible refine isTrue_or_nil ?_ | with_reducible refine' r_isnotIR ?_ | ((with_reducible refine' r_isnotCls ?q9G ?q9X ?q9I ?q9J ?q9c ?_); (case q9G | q9X => assumption); (case q9I | q9J => k_extra "ins"); (case q9c => decide)))))
    exact hQ _ _ <| r_backP (by assumption) ⟨_, rfl, rfl⟩ (by k_extra "sel")
  · (repeat' ((first | k_extra "w" | with_reducible refine isTrue_or_nil ?_ | with_reducible refine' r_isnotIR ?_ | ((with_reducible refine' r_isnotCls ?q9G ?q9X ?q9I ?q9J ?q9c ?_); (case q9G | q9X => assumption); (case q9I | q9J => k_extra "ins"); (case q9c => decide)))))
    exact hQ _ _ <| r_backP (by assumption) ⟨_, rfl, rfl⟩ (by k_extra "sel")
def Sy.words : Sy → Str
  | .quote => Str.ofString "'"
  | .func => Str.ofString "#'"
  | .splice => Str.ofString ",@"
  | _ => Str.ofString ""
theorem sq_d {sx : Addr} {k3 : Nat → Int} {t3 : Nat → Tok} {num : Int} {s : Sy} (I : InsIn (fr.heap_1 w.params) news x 98 (coE k t (.ref sx) (.ref y))) (J : InsIn (fr.heap_1 w.params) news y 98 (coE k2 t2 car2 (.ref 77))) (S : InsIn (fr.heap_1 w.params) news sx 71 (syE k3 t3 num s.name)) (h2 : handedIn car2 = true) :
    SP w p loose mean mg mb (.ref 356) [.ref x] 14 28 news (fun r nw => ∃ u, r = .str s.words u ∧ nw = news) := by
  ((unfold SP; k_fill; refine' Sp.def ?ho ?hcd ?hb ?hl ?h1 ?h2 ?h3 ?h4 ?_; (case ho | hcd => k_is); (case hb => first | exact fun _ _ => BindsTo.of_eq (binds := [(_, _)]) rfl | exact fun _ _ => BindsTo.of_eq (binds := [(_, _), (_, _)]) rfl | exact fun _ _ => BindsTo.of_eq (binds := [(_, _), (_, _), (_, _)]) rfl | exact fun _ _ => BindsTo.of_eq (binds := [(_, _), (_, _), (_, _), (_, _)]) rfl | exact fun _ _ => BindsTo.of_eq rfl); (case hl => exact locs rfl); (case h1 | h2 | h3 => exact rfl); (case h4 => decide); intro _ _ _ _ _ _ _ _ _ _ _ _ _ _; ((refine wpAny_hide ?_; intro _ hQ))))
  (repeat' ((first | k_extra "w" | with_reducible refine isTrue_or_nil ?_ | with_reducible refine' r_isnotSame ?_)))
  refine' r_dmethK ?G ?X ?l PySem.F.slot_dict_get PySem.F.type_dict_get ?_
  case G => assumption
  case X => assumption
  case l => k_is
  (repeat' ((first | k_extra "w" | with_reducible refine isTrue_or_nil ?_ | with_reducible refine' r_isnotSame ?_)))
  cases s with
  | nil =>
    refine' r_dgetN (r := none) ?G ?X ?l ?k ?o ?e ?_
    case G => assumption
    case X => assumption
    case l => k_is
    case k => exact ⟨⟨_, _, rfl, rfl⟩, ⟨_, _, rfl, rfl⟩, ⟨_, _, rfl, rfl⟩, ⟨_, _, rfl, rfl⟩, ⟨_, _, rfl, rfl⟩, trivial⟩
    case o => decide
    case e => k_is
    (repeat' ((first | k_extra "w" | with_reducible refine isTrue_or_nil ?_ | with_reducible refine' r_isnotSame ?_)))
    exact hQ _ _ <| r_backP (by assumption) ⟨_, rfl, rfl⟩ (by k_extra "sel")
  | a =>
    refine' r_dgetN (r := none) ?G ?X ?l ?k ?o ?e ?_
    case G => assumption
    case X => assumption
    case l => k_is
    case k => exact ⟨⟨_, _, rfl, rfl⟩, ⟨_, _, rfl, rfl⟩, ⟨_, _, rfl, rfl⟩, ⟨_, _, rfl, rfl⟩, ⟨_, _, rfl, rfl⟩, trivial⟩
    case o => decide
    case e => k_is
    (repeat' ((first | k_extra "w" | with_reducible refine isTrue_or_nil ?_ | with_reducible refine' r_isnotSame ?_)))
    exact hQ _ _ <| r_backP (by assumption) ⟨_, rfl, rfl⟩ (by k_extra "sel")
  | quote =>
    refine' r_dgetN (r := some (.str (Sy.words .quote) 602)) ?G ?X ?l ?k ?o ?e ?_
    case G => assumption
    case X => assumption
    case l => k_is
    case k => exact ⟨⟨_, _, rfl, rfl⟩, ⟨_, _, rfl, rfl⟩, ⟨_, _, rfl, rfl⟩, ⟨_, _, rfl, rfl⟩, ⟨_, _, rfl, rfl⟩, trivial⟩
    case o => decide
    case e => k_is
    (repeat' ((first | k_extra "w" | with_reducible refine isTrue_or_nil ?_ | with_reducible refine' r_isnotSame ?_)))
    exact hQ _ _ <| r_backP (by assumption) ⟨_, rfl, rfl⟩ (by k_extra "sel")
  | func =>
    refine' r_dgetN (r := some (.str (Sy.words .func) 604)) ?G ?X ?l ?k ?o ?e ?_
    case G => assumption
    case X => assumption
    case l => k_is
    case k => exact ⟨⟨_, _, rfl, rfl⟩, ⟨_, _, rfl, rfl⟩, ⟨_, _, rfl, rfl⟩, ⟨_, _, rfl, rfl⟩, ⟨_, _, rfl, rfl⟩, trivial⟩
    case o => decide
    case e => k_is
    (repeat' ((first | k_extra "w" | with_reducible refine isTrue_or_nil ?_ | with_reducible refine' r_isnotSame ?_)))
    exact hQ _ _ <| r_backP (by assumption) ⟨_, rfl, rfl⟩ (by k_extra "sel")
  | splice =>
    refine' r_dgetN (r := some (.str (Sy.words .splice) 610)) ?G ?X ?l ?k ?o ?e ?_
    case G => assumption
    case X => assumption
    case l => k_is
    case k => exact ⟨⟨_, _, rfl, rfl⟩, ⟨_, _, rfl, rfl⟩, ⟨_, _, rfl, rfl⟩, ⟨_, _, rfl, rfl⟩, ⟨_, _, rfl, rfl⟩, trivial⟩
    case o => decide
    case e => k_is
    (repeat' ((first | k_extra "w" | with_reducible refine isTrue_or_nil ?_ | with_reducible refine' r_isnotSame ?_)))
    exact hQ _ _ <| r_backP (by assumption) ⟨_, rfl, rfl⟩ (by k_extra "sel")
end
section
variable {w : World} {p : Program} {loose : List Str} {mean : ExcName → Option Value} {mg mb : Str → Option Value} {rest : List (Addr × Obj)}
variable {pA cA jA rA oA : Addr} {ob lb len qu : Value} {lev : Int} {lt : Tok} {vs js ar : List Value} {n1 n2 n3 : Nat} {k1 k2 : Nat → Int} {t1 t2 : Nat → Tok}
/-- what is being printed around: none of it is the thing itself -/
noncomputable def Far (K : Frag) (rest : List (Addr × Obj)) (x : Addr) (ar : List Value) : Prop := ∀ v ∈ ar, ∃ y C es, v = .ref y ∧ InsIn K rest y C es ∧ y ≠ x
noncomputable abbrev jobOf (vs : List Value) : Obj := tupOf vs
theorem Far.get {K : Frag} {x : Addr} (hf : Far K rest x ar) (i : Nat) (hi : i < ar.length) : ∃ y C es, ar[i]? = some (.ref y) ∧ InsIn K rest y C es ∧ y ≠ x := by
  obtain ⟨y, C, es, a, b, c⟩ := hf ar[i] (List.getElem_mem hi)
  exact ⟨y, C, es, by rw [List.getElem?_eq_getElem hi, a], b, c⟩
/-- a list or dotted list, whole -/
theorem sp_whole_cons {c2 : Value} {x : Addr} {k : Nat → Int} {t : Nat → Tok} {car cdr : Value} {q : Str} {qb : Bool} (hx : InsIn (fr.heap_1 w.params) rest x 98 (coE k t car cdr)) (hp : InsIn (fr.heap_1 w.params) rest pA 429 (prE k1 t1 oA ob lb cA jA rA)) (ho : InsIn (fr.heap_1 w.params) rest oA 312 (opE k2 t2 len (.int lev lt) (.bool qb)))
    (hf : Far (fr.heap_1 w.params) rest x ar) (har : ar.length ≤ 1000) (hjs : js.length ≤ 1000) (hs : vs.length ≤ 1000000) (h1 : handedIn car = true) (h2 : handedIn cdr = true)
    (SQ : ∀ news', (∀ p ∈ rest, p ∈ news') → SP w p loose mean mg mb (.ref 356) [.ref x] 14 28 news' (fun r nw => ∃ u, r = .str q u ∧ nw = news'))
    (hql : q.cps.size ≤ 10) (hq : (q != Str.ofString "") = true → ∃ y k2 t2 cdr2, cdr = .ref y ∧ InsIn (fr.heap_1 w.params) rest y 98 (coE k2 t2 c2 cdr2) ∧ handedIn c2 = true) :
    SP w p loose mean mg mb (.ref 398) [.ref pA, .ref x] 20 60 (PL cA jA rA vs js ar n1 n2 n3 rest) (fun r nw => r = .none ∧ (
      (0 ≤ lev ∧ lev ≤ ar.length ∧ ∃ vs' n1', nw = PL cA jA rA (vs ++ vs') js ar n1' n2 n3 rest ∧ IntsAre vs' [35]) ∨
      (¬ (0 ≤ lev ∧ lev ≤ ar.length) ∧ ∃ vs' n1' n2' n3' q1 q2 o2 u3 u4, nw = PL cA jA rA (vs ++ vs') (js ++ [.ref q1] ++ [.ref q2]) (ar ++ [.ref x]) n1' n2' n3' ((q2, o2) :: (q1, tupOf [.int 4 u3, .none]) :: rest) ∧
        (((qb = true ∧ (q != Str.ofString "") = true) ∧ IntsAre vs' (codesOf q) ∧ o2 = tupOf [.int 0 u4, c2]) ∨
         (¬ (qb = true ∧ (q != Str.ofString "") = true) ∧ IntsAre vs' [40] ∧ ∃ u5, o2 = tupOf [.int 2 u4, .ref x, .int 0 u5, .ref x]))))) := by
  ((unfold SP; k_fill; refine' Sp.def ?ho ?hcd ?hb ?hl ?h1 ?h2 ?h3 ?h4 ?_; (case ho | hcd => k_is); (case hb => first | exact fun _ _ => BindsTo.of_eq (binds := [(_, _)]) rfl | exact fun _ _ => BindsTo.of_eq (binds := [(_, _), (_, _)]) rfl | exact fun _ _ => BindsTo.of_eq (binds := [(_, _), (_, _), (_, _)]) rfl | exact fun _ _ => BindsTo.of_eq (binds := [(_, _), (_, _), (_, _), (_, _)]) rfl | exact fun _ _ => BindsTo.of_eq rfl); (case hl => exact locs rfl); (case h1 | h2 | h3 => exact rfl); (case h4 => decide); intro _ _ _ _ _ _ _ _ _ _ _ _ _ _; ((refine wpAny_hide ?_; intro _ hQ))))
  (repeat' ((first | k_extra "w" | with_reducible refine Constant_none ?_ | ((with_reducible refine' r_range1 ?q9G ?_); (case q9G => assumption); intro _ _ _ _ _ _) | with_reducible refine' r_neStr ?_ | ((with_reducible refine' r_isNe ?q9G ?q9X ?q9I ?q9J ?q9c ?_); (case q9G | q9X => assumption); (case q9I | q9J => k_extra "ins"); (case q9c => assumption)))))
  rename_i r _ _ _ _ _
  refine r_forRange (n := ar.length) (fun i m nw => nw = (r, rgObj 0 ar.length 1 _ _ _) :: PL cA jA rA vs js ar n1 n2 n3 rest ∧
    m (Str.ofString "self") = some (.ref pA) ∧ m (Str.ofString "datum") = some (.ref x)) (by assumption) rfl rfl (by assumption) (.head _) (small_nat (by k_extra "le")) (by rw [size_up (by k_extra "le")]; simp) ⟨rfl, rfl, rfl⟩ ?_ ?_
  · rintro I i h t m nw u oI hi ⟨rfl, m1, m2⟩ G
    refine wpAny_hide fun Q8 hT => ?_
    obtain ⟨y, C, es, e1, e2, e3⟩ := hf.get i hi
    (repeat' ((first | k_extra "w" | with_reducible refine Constant_none ?_ | ((with_reducible refine' r_range1 ?q9G ?_); (case q9G => assumption); intro _ _ _ _ _ _) | with_reducible refine' r_neStr ?_ | ((with_reducible refine' r_isNe ?q9G ?q9X ?q9I ?q9J ?q9c ?_); (case q9G | q9X => assumption); (case q9I | q9J => k_extra "ins"); (case q9c => assumption)))))
    refine r_item (by assumption) (by k_extra "mem") (by k_extra "le") (by k_extra "le") (v := .ref y) (by simpa using e1) (by with_unfolding_all rfl) ?_
    (repeat' ((first | k_extra "w" | with_reducible refine Constant_none ?_ | ((with_reducible refine' r_range1 ?q9G ?_); (case q9G => assumption); intro _ _ _ _ _ _) | with_reducible refine' r_neStr ?_ | ((with_reducible refine' r_isNe ?q9G ?q9X ?q9I ?q9J ?q9c ?_); (case q9G | q9X => assumption); (case q9I | q9J => k_extra "ins"); (case q9c => assumption)))))
    refine hT _ _ ?_
    k_extra "turned"
    exact ⟨rfl, m1, m2⟩
  · rintro h t m nw ⟨rfl, m1, m2⟩ G
    (repeat' ((((fail_if_success (with_reducible refine r_stopB ?_)); (fail_if_success (with_reducible refine r_stopE ?_)); (first | k_extra "w" | with_reducible refine Constant_none ?_ | ((with_reducible refine' r_range1 ?q9G ?_); (case q9G => assumption); intro _ _ _ _ _ _) | with_reducible refine' r_neStr ?_ | ((with_reducible refine' r_isNe ?q9G ?q9X ?q9I ?q9J ?q9c ?_); (case q9G | q9X => assumption); (case q9I | q9J => k_extra "ins"); (case q9c => assumption)))))))
    by_cases c : 0 ≤ lev ∧ lev ≤ ar.length
    · have c1 := c.1
      have c2 := c.2
      (repeat' ((first | k_extra "w" | with_reducible refine Constant_none ?_ | ((with_reducible refine' r_range1 ?q9G ?_); (case q9G => assumption); intro _ _ _ _ _ _) | with_reducible refine' r_neStr ?_ | ((with_reducible refine' r_isNe ?q9G ?q9X ?q9I ?q9J ?q9c ?_); (case q9G | q9X => assumption); (case q9I | q9J => k_extra "ins"); (case q9c => assumption)))))
      exact hQ _ _ <| r_backP (by assumption) ⟨rfl, .inl ⟨c1, c2, [.int 35 _], _, rfl, .cons _ _ .nil⟩⟩ (by k_extra "sel")
    · have cc : ¬ 0 ≤ lev ∨ (0 ≤ lev ∧ ¬ lev ≤ ar.length) := by omega
      refine cutN (by assumption) ?_ ?_
      · intro BQ hBQ
        rcases cc with c1 | ⟨c1, c2⟩ <;> ((repeat' ((first | k_extra "w" | with_reducible refine Constant_none ?_ | ((with_reducible refine' r_range1 ?q9G ?_); (case q9G => assumption); intro _ _ _ _ _ _) | with_reducible refine' r_neStr ?_ | ((with_reducible refine' r_isNe ?q9G ?q9X ?q9I ?q9J ?q9c ?_); (case q9G | q9X => assumption); (case q9I | q9J => k_extra "ins"); (case q9c => assumption))))); exact hBQ _ _ (by assumption))
      intro h' t' G
      (repeat' ((first | k_extra "w" | with_reducible refine Constant_none ?_ | ((with_reducible refine' r_range1 ?q9G ?_); (case q9G => assumption); intro _ _ _ _ _ _) | with_reducible refine' r_neStr ?_ | ((with_reducible refine' r_isNe ?q9G ?q9X ?q9I ?q9J ?q9c ?_); (case q9G | q9X => assumption); (case q9I | q9J => k_extra "ins"); (case q9c => assumption)))))
      cases qb with
      | false =>
        (repeat' ((first | k_extra "w" | with_reducible refine Constant_none ?_ | ((with_reducible refine' r_range1 ?q9G ?_); (case q9G => assumption); intro _ _ _ _ _ _) | with_reducible refine' r_neStr ?_ | ((with_reducible refine' r_isNe ?q9G ?q9X ?q9I ?q9J ?q9c ?_); (case q9G | q9X => assumption); (case q9I | q9J => k_extra "ins"); (case q9c => assumption)))))
        exact hQ _ _ <| r_backP0 (by assumption) ⟨rfl, .inr ⟨c, [.int 40 _], _, _, _, _, _, _, _, _, rfl, .inr ⟨by simp, .cons _ _ .nil, _, rfl⟩⟩⟩ (by k_extra "sel")
      | true =>
        (repeat' ((first | k_extra "w" | with_reducible refine Constant_none ?_ | ((with_reducible refine' r_range1 ?q9G ?_); (case q9G => assumption); intro _ _ _ _ _ _) | with_reducible refine' r_neStr ?_ | ((with_reducible refine' r_isNe ?q9G ?q9X ?q9I ?q9J ?q9c ?_); (case q9G | q9X => assumption); (case q9I | q9J => k_extra "ins"); (case q9c => assumption)))))
        refine cal (by assumption) (SQ _ (by k_extra "sub")) ?_
        rintro v nw h' t' ⟨uq, rfl, rfl⟩ G
        (repeat' ((first | k_extra "w" | with_reducible refine Constant_none ?_ | ((with_reducible refine' r_range1 ?q9G ?_); (case q9G => assumption); intro _ _ _ _ _ _) | with_reducible refine' r_neStr ?_ | ((with_reducible refine' r_isNe ?q9G ?q9X ?q9I ?q9J ?q9c ?_); (case q9G | q9X => assumption); (case q9I | q9J => k_extra "ins"); (case q9c => assumption)))))
        cases hqq : (q != Str.ofString "") with
        | false =>
          (repeat' ((first | k_extra "w" | with_reducible refine Constant_none ?_ | ((with_reducible refine' r_range1 ?q9G ?_); (case q9G => assumption); intro _ _ _ _ _ _) | with_reducible refine' r_neStr ?_ | ((with_reducible refine' r_isNe ?q9G ?q9X ?q9I ?q9J ?q9c ?_); (case q9G | q9X => assumption); (case q9I | q9J => k_extra "ins"); (case q9c => assumption)))))
          exact hQ _ _ <| r_backP0 (by assumption) ⟨rfl, .inr ⟨c, [.int 40 _], _, _, _, _, _, _, _, _, rfl, .inr ⟨by simp [hqq], .cons _ _ .nil, _, rfl⟩⟩⟩ (by k_extra "sel")
        | true =>
          obtain ⟨y, k2, t2, cdr2, rfl, J, h3⟩ := hq hqq
          (repeat' ((first | k_extra "w" | with_reducible refine Constant_none ?_ | ((with_reducible refine' r_range1 ?q9G ?_); (case q9G => assumption); intro _ _ _ _ _ _) | with_reducible refine' r_neStr ?_ | ((with_reducible refine' r_isNe ?q9G ?q9X ?q9I ?q9J ?q9c ?_); (case q9G | q9X => assumption); (case q9I | q9J => k_extra "ins"); (case q9c => assumption)))))
          refine cal (by assumption) (sp_codes (by k_extra "size")) ?_
          rintro v nw h' t' ⟨D, cs, nq, rfl, rfl, hcs⟩ G
          have hcl : cs.length ≤ 10 := by rw [hcs.length]; simpa [codesOf] using hql
          (repeat' ((first | k_extra "w" | with_reducible refine Constant_none ?_ | ((with_reducible refine' r_range1 ?q9G ?_); (case q9G => assumption); intro _ _ _ _ _ _) | with_reducible refine' r_neStr ?_ | ((with_reducible refine' r_isNe ?q9G ?q9X ?q9I ?q9J ?q9c ?_); (case q9G | q9X => assumption); (case q9I | q9J => k_extra "ins"); (case q9c => assumption)))))
          exact hQ _ _ <| r_backP0 (by assumption) ⟨rfl, .inr ⟨c, cs, _, _, _, _, _, _, _, _, rfl, .inl ⟨⟨rfl, hqq⟩, hcs, rfl⟩⟩⟩ (by k_extra "sel")
end
section
variable {w : World} {p : Program} {loose : List Str} {mean : ExcName → Option Value} {mg mb : Str → Option Value} {rest : List (Addr × Obj)}
variable {pA cA jA rA oA : Addr} {ob lb len qu : Value} {lev : Int} {lt : Tok} {vs js ar : List Value} {n1 n2 n3 : Nat} {k1 k2 : Nat → Int} {t1 t2 : Nat → Tok}
/-- a vector, whole -/
theorem sp_whole_vec {x l : Addr} {k : Nat → Int} {t : Nat → Tok} {qb : Bool} (hx : InsIn (fr.heap_1 w.params) rest x 141 (veE k t l)) (hp : InsIn (fr.heap_1 w.params) rest pA 429 (prE k1 t1 oA ob lb cA jA rA)) (ho : InsIn (fr.heap_1 w.params) rest oA 312 (opE k2 t2 len (.int lev lt) (.bool qb)))
    (hf : Far (fr.heap_1 w.params) rest x ar) (har : ar.length ≤ 1000) (hjs : js.length ≤ 1000) (hs : vs.length ≤ 1000000) :
    SP w p loose mean mg mb (.ref 398) [.ref pA, .ref x] 20 60 (PL cA jA rA vs js ar n1 n2 n3 rest) (fun r nw => r = .none ∧ (
      (0 ≤ lev ∧ lev ≤ ar.length ∧ ∃ vs' n1', nw = PL cA jA rA (vs ++ vs') js ar n1' n2 n3 rest ∧ IntsAre vs' [35]) ∨
      (¬ (0 ≤ lev ∧ lev ≤ ar.length) ∧ ∃ vs' n1' n2' n3' q1 q2 u3 u4 u5, nw = PL cA jA rA (vs ++ vs') (js ++ [.ref q1] ++ [.ref q2]) (ar ++ [.ref x]) n1' n2' n3' ((q2, tupOf [.int 3 u4, .ref l, .int 0 u5]) :: (q1, tupOf [.int 4 u3, .none]) :: rest) ∧ IntsAre vs' [91]))) := by
  ((unfold SP; k_fill; refine' Sp.def ?ho ?hcd ?hb ?hl ?h1 ?h2 ?h3 ?h4 ?_; (case ho | hcd => k_is); (case hb => first | exact fun _ _ => BindsTo.of_eq (binds := [(_, _)]) rfl | exact fun _ _ => BindsTo.of_eq (binds := [(_, _), (_, _)]) rfl | exact fun _ _ => BindsTo.of_eq (binds := [(_, _), (_, _), (_, _)]) rfl | exact fun _ _ => BindsTo.of_eq (binds := [(_, _), (_, _), (_, _), (_, _)]) rfl | exact fun _ _ => BindsTo.of_eq rfl); (case hl => exact locs rfl); (case h1 | h2 | h3 => exact rfl); (case h4 => decide); intro _ _ _ _ _ _ _ _ _ _ _ _ _ _; ((refine wpAny_hide ?_; intro _ hQ))))
  (repeat' ((first | k_extra "w" | with_reducible refine Constant_none ?_ | ((with_reducible refine' r_range1 ?q9G ?_); (case q9G => assumption); intro _ _ _ _ _ _) | with_reducible refine' r_neStr ?_ | ((with_reducible refine' r_isNe ?q9G ?q9X ?q9I ?q9J ?q9c ?_); (case q9G | q9X => assumption); (case q9I | q9J => k_extra "ins"); (case q9c => assumption)))))
  rename_i r _ _ _ _ _
  refine r_forRange (n := ar.length) (fun i m nw => nw = (r, rgObj 0 ar.length 1 _ _ _) :: PL cA jA rA vs js ar n1 n2 n3 rest ∧
    m (Str.ofString "self") = some (.ref pA) ∧ m (Str.ofString "datum") = some (.ref x)) (by assumption) rfl rfl (by assumption) (.head _) (small_nat (by k_extra "le")) (by rw [size_up (by k_extra "le")]; simp) ⟨rfl, rfl, rfl⟩ ?_ ?_
  · rintro I i h t m nw u oI hi ⟨rfl, m1, m2⟩ G
    refine wpAny_hide fun Q8 hT => ?_
    obtain ⟨y, C, es, e1, e2, e3⟩ := hf.get i hi
    (repeat' ((first | k_extra "w" | with_reducible refine Constant_none ?_ | ((with_reducible refine' r_range1 ?q9G ?_); (case q9G => assumption); intro _ _ _ _ _ _) | with_reducible refine' r_neStr ?_ | ((with_reducible refine' r_isNe ?q9G ?q9X ?q9I ?q9J ?q9c ?_); (case q9G | q9X => assumption); (case q9I | q9J => k_extra "ins"); (case q9c => assumption)))))
    refine r_item (by assumption) (by k_extra "mem") (by k_extra "le") (by k_extra "le") (v := .ref y) (by simpa using e1) (by with_unfolding_all rfl) ?_
    (repeat' ((first | k_extra "w" | with_reducible refine Constant_none ?_ | ((with_reducible refine' r_range1 ?q9G ?_); (case q9G => assumption); intro _ _ _ _ _ _) | with_reducible refine' r_neStr ?_ | ((with_reducible refine' r_isNe ?q9G ?q9X ?q9I ?q9J ?q9c ?_); (case q9G | q9X => assumption); (case q9I | q9J => k_extra "ins"); (case q9c => assumption)))))
    refine hT _ _ ?_
    k_extra "turned"
    exact ⟨rfl, m1, m2⟩
  · rintro h t m nw ⟨rfl, m1, m2⟩ G
    (repeat' ((((fail_if_success (with_reducible refine r_stopB ?_)); (fail_if_success (with_reducible refine r_stopE ?_)); (first | k_extra "w" | with_reducible refine Constant_none ?_ | ((with_reducible refine' r_range1 ?q9G ?_); (case q9G => assumption); intro _ _ _ _ _ _) | with_reducible refine' r_neStr ?_ | ((with_reducible refine' r_isNe ?q9G ?q9X ?q9I ?q9J ?q9c ?_); (case q9G | q9X => assumption); (case q9I | q9J => k_extra "ins"); (case q9c => assumption)))))))
    by_cases c : 0 ≤ lev ∧ lev ≤ ar.length
    · have c1 := c.1
      have c2 := c.2
      (repeat' ((first | k_extra "w" | with_reducible refine Constant_none ?_ | ((with_reducible refine' r_range1 ?q9G ?_); (case q9G => assumption); intro _ _ _ _ _ _) | with_reducible refine' r_neStr ?_ | ((with_reducible refine' r_isNe ?q9G ?q9X ?q9I ?q9J ?q9c ?_); (case q9G | q9X => assumption); (case q9I | q9J => k_extra "ins"); (case q9c => assumption)))))
      exact hQ _ _ <| r_backP (by assumption) ⟨rfl, .inl ⟨c1, c2, [.int 35 _], _, rfl, .cons _ _ .nil⟩⟩ (by k_extra "sel")
    · have cc : ¬ 0 ≤ lev ∨ (0 ≤ lev ∧ ¬ lev ≤ ar.length) := by omega
      refine cutN (by assumption) ?_ ?_
      · intro BQ hBQ
        rcases cc with c1 | ⟨c1, c2⟩ <;> ((repeat' ((first | k_extra "w" | with_reducible refine Constant_none ?_ | ((with_reducible refine' r_range1 ?q9G ?_); (case q9G => assumption); intro _ _ _ _ _ _) | with_reducible refine' r_neStr ?_ | ((with_reducible refine' r_isNe ?q9G ?q9X ?q9I ?q9J ?q9c ?_); (case q9G | q9X => assumption); (case q9I | q9J => k_extra "ins"); (case q9c => assumption))))); exact hBQ _ _ (by assumption))
      intro h' t' G
      (repeat' ((first | k_extra "w" | with_reducible refine Constant_none ?_ | ((with_reducible refine' r_range1 ?q9G ?_); (case q9G => assumption); intro _ _ _ _ _ _) | with_reducible refine' r_neStr ?_ | ((with_reducible refine' r_isNe ?q9G ?q9X ?q9I ?q9J ?q9c ?_); (case q9G | q9X => assumption); (case q9I | q9J => k_extra "ins"); (case q9c => assumption)))))
      cases qb with
      | false =>
        (repeat' ((first | k_extra "w" | with_reducible refine Constant_none ?_ | ((with_reducible refine' r_range1 ?q9G ?_); (case q9G => assumption); intro _ _ _ _ _ _) | with_reducible refine' r_neStr ?_ | ((with_reducible refine' r_isNe ?q9G ?q9X ?q9I ?q9J ?q9c ?_); (case q9G | q9X => assumption); (case q9I | q9J => k_extra "ins"); (case q9c => assumption)))))
        refine cal (by assumption) (sp_codes (x := Str.ofString "[") (by decide +kernel)) ?_
        rintro v nw h' t' ⟨D, cs, nq, rfl, rfl, hcs⟩ G
        have hcs : IntsAre cs [91] := by rw [show codesOf (Str.ofString "[") = [91] by decide +kernel] at hcs; exact hcs
        have hcl : cs.length = 1 := hcs.length
        (repeat' ((first | k_extra "w" | with_reducible refine Constant_none ?_ | ((with_reducible refine' r_range1 ?q9G ?_); (case q9G => assumption); intro _ _ _ _ _ _) | with_reducible refine' r_neStr ?_ | ((with_reducible refine' r_isNe ?q9G ?q9X ?q9I ?q9J ?q9c ?_); (case q9G | q9X => assumption); (case q9I | q9J => k_extra "ins"); (case q9c => assumption)))))
        exact hQ _ _ <| r_backP0 (by assumption) ⟨rfl, .inr ⟨c, cs, _, _, _, _, _, _, _, _, rfl, hcs⟩⟩ (by k_extra "sel")
      | true =>
        (repeat' ((first | k_extra "w" | with_reducible refine Constant_none ?_ | ((with_reducible refine' r_range1 ?q9G ?_); (case q9G => assumption); intro _ _ _ _ _ _) | with_reducible refine' r_neStr ?_ | ((with_reducible refine' r_isNe ?q9G ?q9X ?q9I ?q9J ?q9c ?_); (case q9G | q9X => assumption); (case q9I | q9J => k_extra "ins"); (case q9c => assumption)))))
        refine cal (by assumption) (sq_vec (hx.mono (by k_extra "sub"))) ?_
        rintro v nw h' t' ⟨uq, rfl, rfl⟩ G
        (repeat' ((first | k_extra "w" | with_reducible refine Constant_none ?_ | ((with_reducible refine' r_range1 ?q9G ?_); (case q9G => assumption); intro _ _ _ _ _ _) | with_reducible refine' r_neStr ?_ | ((with_reducible refine' r_isNe ?q9G ?q9X ?q9I ?q9J ?q9c ?_); (case q9G | q9X => assumption); (case q9I | q9J => k_extra "ins"); (case q9c => assumption)))))
        refine cal (by assumption) (sp_codes (x := Str.ofString "[") (by decide +kernel)) ?_
        rintro v nw h' t' ⟨D, cs, nq, rfl, rfl, hcs⟩ G
        have hcs : IntsAre cs [91] := by rw [show codesOf (Str.ofString "[") = [91] by decide +kernel] at hcs; exact hcs
        have hcl : cs.length = 1 := hcs.length
        (repeat' ((first | k_extra "w" | with_reducible refine Constant_none ?_ | ((with_reducible refine' r_range1 ?q9G ?_); (case q9G => assumption); intro _ _ _ _ _ _) | with_reducible refine' r_neStr ?_ | ((with_reducible refine' r_isNe ?q9G ?q9X ?q9I ?q9J ?q9c ?_); (case q9G | q9X => assumption); (case q9I | q9J => k_extra "ins"); (case q9c => assumption)))))
        exact hQ _ _ <| r_backP0 (by assumption) ⟨rfl, .inr ⟨c, cs, _, _, _, _, _, _, _, _, rfl, hcs⟩⟩ (by k_extra "sel")

theorem sp_row_nil {i : Int} {u : Tok} {half : Value} (hp : InsIn (fr.heap_1 w.params) rest pA 429 (prE k1 t1 oA ob lb cA jA rA)) (hs : vs.length ≤ 1000000) :
    SP w p loose mean mg mb (.ref 412) [.ref pA, .ref 77, .int i u, half] 20 60 (PL cA jA rA vs js ar n1 n2 n3 rest) (fun r nw => r = .none ∧ ∃ vs' n1', nw = PL cA jA rA (vs ++ vs') js ar n1' n2 n3 rest ∧ IntsAre vs' [41]) := by
  ((unfold SP; k_fill; refine' Sp.def ?ho ?hcd ?hb ?hl ?h1 ?h2 ?h3 ?h4 ?_; (case ho | hcd => k_is); (case hb => first | exact fun _ _ => BindsTo.of_eq (binds := [(_, _)]) rfl | exact fun _ _ => BindsTo.of_eq (binds := [(_, _), (_, _)]) rfl | exact fun _ _ => BindsTo.of_eq (binds := [(_, _), (_, _), (_, _)]) rfl | exact fun _ _ => BindsTo.of_eq (binds := [(_, _), (_, _), (_, _), (_, _)]) rfl | exact fun _ _ => BindsTo.of_eq rfl); (case hl => exact locs rfl); (case h1 | h2 | h3 => exact rfl); (case h4 => decide); intro _ _ _ _ _ _ _ _ _ _ _ _ _ _; ((refine wpAny_hide ?_; intro _ hQ))))
  (repeat' ((first | k_extra "w" | with_reducible refine' r_isSame ?_)))
  exact hQ _ _ <| r_backP (by assumption) ⟨rfl, [.int 41 _], _, rfl, .cons _ _ .nil⟩ (by k_extra "sel")
theorem sp_row_dot {i n : Int} {u un : Tok} {half : Value} (hp : InsIn (fr.heap_1 w.params) rest pA 429 (prE k1 t1 oA ob lb cA jA rA)) (hs : vs.length ≤ 1000000) (hjs : js.length ≤ 1000) :
    SP w p loose mean mg mb (.ref 412) [.ref pA, .int n un, .int i u, half] 20 60 (PL cA jA rA vs js ar n1 n2 n3 rest) (fun r nw => r = .none ∧ ∃ vs' n1' n2' q1 q2 u3 u4 u5, nw = PL cA jA rA (vs ++ vs') (js ++ [.ref q1] ++ [.ref q2]) ar n1' n2' n3 ((q2, tupOf [.int 0 u5, .int n un]) :: (q1, tupOf [.int 1 u3, .str (Str.ofString ")") u4]) :: rest) ∧ IntsAre vs' [32, 46, 32]) := by
  ((unfold SP; k_fill; refine' Sp.def ?ho ?hcd ?hb ?hl ?h1 ?h2 ?h3 ?h4 ?_; (case ho | hcd => k_is); (case hb => first | exact fun _ _ => BindsTo.of_eq (binds := [(_, _)]) rfl | exact fun _ _ => BindsTo.of_eq (binds := [(_, _), (_, _)]) rfl | exact fun _ _ => BindsTo.of_eq (binds := [(_, _), (_, _), (_, _)]) rfl | exact fun _ _ => BindsTo.of_eq (binds := [(_, _), (_, _), (_, _), (_, _)]) rfl | exact fun _ _ => BindsTo.of_eq rfl); (case hl => exact locs rfl); (case h1 | h2 | h3 => exact rfl); (case h4 => decide); intro _ _ _ _ _ _ _ _ _ _ _ _ _ _; ((refine wpAny_hide ?_; intro _ hQ))))
  (repeat' ((first | k_extra "w" | ((with_reducible refine' r_isiInt ?q9G ?q9X ?q9e ?_); (case q9G | q9X => assumption); (case q9e => kit_is); intro _) | with_reducible refine' r_isIR ?_)))
  refine cal (by assumption) (sp_codes (x := Str.ofString " . ") (by decide +kernel)) ?_
  rintro v nw h' t' ⟨D, cs, nq, rfl, rfl, hcs⟩ G
  have hcs : IntsAre cs [32, 46, 32] := by rw [show codesOf (Str.ofString " . ") = [32, 46, 32] by decide +kernel] at hcs; exact hcs
  have hcl : cs.length = 3 := hcs.length
  (repeat' ((first | k_extra "w" | ((with_reducible refine' r_isiInt ?q9G ?q9X ?q9e ?_); (case q9G | q9X => assumption); (case q9e => kit_is); intro _) | with_reducible refine' r_isIR ?_)))
  exact hQ _ _ <| r_backP (by assumption) ⟨rfl, cs, _, _, _, _, _, _, _, rfl, hcs⟩ (by k_extra "sel")
theorem sp_dotted_no {x y : Addr} {C C' : Addr} {es es' : List DictEntry} {i : Int} {u : Tok} (hp : InsIn (fr.heap_1 w.params) rest pA 429 (prE k1 t1 oA ob lb cA jA rA)) (ho : InsIn (fr.heap_1 w.params) rest oA 312 (opE k2 t2 len (.int lev lt) qu))
    (hx : InsIn (fr.heap_1 w.params) rest x C es) (hy : InsIn (fr.heap_1 w.params) rest y C' es') (ne : x ≠ y) :
    SP w p loose mean mg mb (.ref 419) [.ref pA, .ref x, .int i u, .ref y] 12 24 rest (fun r nw => r = .bool false ∧ nw = rest) := by
  ((unfold SP; k_fill; refine' Sp.def ?ho ?hcd ?hb ?hl ?h1 ?h2 ?h3 ?h4 ?_; (case ho | hcd => k_is); (case hb => first | exact fun _ _ => BindsTo.of_eq (binds := [(_, _)]) rfl | exact fun _ _ => BindsTo.of_eq (binds := [(_, _), (_, _)]) rfl | exact fun _ _ => BindsTo.of_eq (binds := [(_, _), (_, _), (_, _)]) rfl | exact fun _ _ => BindsTo.of_eq (binds := [(_, _), (_, _), (_, _), (_, _)]) rfl | exact fun _ _ => BindsTo.of_eq rfl); (case hl => exact locs rfl); (case h1 | h2 | h3 => exact rfl); (case h4 => decide); intro _ _ _ _ _ _ _ _ _ _ _ _ _ _; ((refine wpAny_hide ?_; intro _ hQ))))
  (repeat' ((first | k_extra "w" | ((with_reducible refine' wpAny_Compare1 ?_ ?q9hm); (case q9hm => with_unfolding_all rfl)) | ((with_reducible refine' r_isNe ?q9G ?q9X ?q9I ?q9J ?q9c ?_); (case q9G | q9X => assumption); (case q9I | q9J => k_extra "ins"); (case q9c => assumption)))))
  exact hQ _ _ <| r_backP (by assumption) ⟨rfl, rfl⟩ (by k_extra "sel")
theorem sp_dotted_yes {x : Addr} {i : Int} {u : Tok} (hp : InsIn (fr.heap_1 w.params) rest pA 429 (prE k1 t1 oA ob lb cA jA rA)) (ho : InsIn (fr.heap_1 w.params) rest oA 312 (opE k2 t2 len (.int lev lt) qu)) :
    SP w p loose mean mg mb (.ref 419) [.ref pA, .ref x, .int i u, .ref x] 12 24 rest (fun r nw => r = .bool true ∧ nw = rest) := by
  ((unfold SP; k_fill; refine' Sp.def ?ho ?hcd ?hb ?hl ?h1 ?h2 ?h3 ?h4 ?_; (case ho | hcd => k_is); (case hb => first | exact fun _ _ => BindsTo.of_eq (binds := [(_, _)]) rfl | exact fun _ _ => BindsTo.of_eq (binds := [(_, _), (_, _)]) rfl | exact fun _ _ => BindsTo.of_eq (binds := [(_, _), (_, _), (_, _)]) rfl | exact fun _ _ => BindsTo.of_eq (binds := [(_, _), (_, _), (_, _), (_, _)]) rfl | exact fun _ _ => BindsTo.of_eq rfl); (case hl => exact locs rfl); (case h1 | h2 | h3 => exact rfl); (case h4 => decide); intro _ _ _ _ _ _ _ _ _ _ _ _ _ _; ((refine wpAny_hide ?_; intro _ hQ))))
  (repeat' ((first | k_extra "w" | ((with_reducible refine' wpAny_Compare1 ?_ ?q9hm); (case q9hm => with_unfolding_all rfl)) | with_reducible refine' r_isSame ?_)))
  exact hQ _ _ <| r_backP (by assumption) ⟨rfl, rfl⟩ (by k_extra "sel")
theorem sp_row_next {hv : Value} {x y : Addr} {k k' : Nat → Int} {t t' : Nat → Tok} {car cdr car' cdr' : Value} {i : Nat} {len : Int} {u lu : Tok} (hp : InsIn (fr.heap_1 w.params) rest pA 429 (prE k1 t1 oA ob lb cA jA rA)) (ho : InsIn (fr.heap_1 w.params) rest oA 312 (opE k2 t2 (.int len lu) (.int lev lt) qu))
    (hx : InsIn (fr.heap_1 w.params) rest x 98 (coE k t car cdr)) (hy : InsIn (fr.heap_1 w.params) rest y 98 (coE k' t' car' cdr')) (ne : 0 < i → x ≠ y) (h1 : handedIn car = true) (h2 : handedIn cdr = true) (h3 : handedIn cdr' = true) (hs : vs.length ≤ 1000000) (hjs : js.length ≤ 1000) (hi : i ≤ 1000) (hh : (i % 2 = 1 ∧ hv = cdr') ∨ (i % 2 = 0 ∧ hv = .ref y)) :
    SP w p loose mean mg mb (.ref 412) [.ref pA, .ref x, .int (i : Int) u, .ref y] 20 60 (PL cA jA rA vs js ar n1 n2 n3 rest) (fun r nw => r = .none ∧ (
      ((0 ≤ len ∧ len ≤ i) ∧ ∃ vs' n1', nw = PL cA jA rA (vs ++ vs') js ar n1' n2 n3 rest ∧ IntsAre vs' ((if i = 0 then [] else [32]) ++ [46, 46, 46, 41])) ∨
      (¬ (0 ≤ len ∧ len ≤ i) ∧ ∃ vs' n1' n2' q1 q2 u3 u4 u5, nw = PL cA jA rA (vs ++ vs') (js ++ [.ref q1] ++ [.ref q2]) ar n1' n2' n3 ((q2, tupOf [.int 0 u3, car]) :: (q1, tupOf [.int 2 u4, cdr, .int ((i : Int) + 1) u5, hv]) :: rest) ∧ IntsAre vs' (if i = 0 then [] else [32])))) := by
  rcases Nat.eq_zero_or_pos i with rfl | hp0
  · ((unfold SP; k_fill; refine' Sp.def ?ho ?hcd ?hb ?hl ?h1 ?h2 ?h3 ?h4 ?_; (case ho | hcd => k_is); (case hb => first | exact fun _ _ => BindsTo.of_eq (binds := [(_, _)]) rfl | exact fun _ _ => BindsTo.of_eq (binds := [(_, _), (_, _)]) rfl | exact fun _ _ => BindsTo.of_eq (binds := [(_, _), (_, _), (_, _)]) rfl | exact fun _ _ => BindsTo.of_eq (binds := [(_, _), (_, _), (_, _), (_, _)]) rfl | exact fun _ _ => BindsTo.of_eq rfl); (case hl => exact locs rfl); (case h1 | h2 | h3 => exact rfl); (case h4 => decide); intro _ _ _ _ _ _ _ _ _ _ _ _ _ _; ((refine wpAny_hide ?_; intro _ hQ))))
    (repeat' ((((fail_if_success (with_reducible refine r_stopB ?_)); (fail_if_success (with_reducible refine r_stopE ?_)); (first | k_extra "w" | with_reducible refine isTrue_or_nil ?_ | (with_reducible refine' r_add ?_ <;> intro _ _) | ((with_reducible refine' r_mod ?q9b ?_); (case q9b => decide); intro _ _) | ((with_reducible refine' r_isCls ?q9G ?q9X ?q9I ?q9J ?q9c ?_); (case q9G | q9X => assumption); (case q9I | q9J => k_extra "ins"); (case q9c => decide)))))))
    (first | k_extra "w" | with_reducible refine isTrue_or_nil ?_ | (with_reducible refine' r_add ?_ <;> intro _ _) | ((with_reducible refine' r_mod ?q9b ?_); (case q9b => decide); intro _ _) | ((with_reducible refine' r_isCls ?q9G ?q9X ?q9I ?q9J ?q9c ?_); (case q9G | q9X => assumption); (case q9I | q9J => k_extra "ins"); (case q9c => decide)))
    (repeat' ((((fail_if_success (with_reducible refine r_stopB ?_)); (fail_if_success (with_reducible refine r_stopE ?_)); (first | k_extra "w" | with_reducible refine isTrue_or_nil ?_ | (with_reducible refine' r_add ?_ <;> intro _ _) | ((with_reducible refine' r_mod ?q9b ?_); (case q9b => decide); intro _ _) | ((with_reducible refine' r_isCls ?q9G ?q9X ?q9I ?q9J ?q9c ?_); (case q9G | q9X => assumption); (case q9I | q9J => k_extra "ins"); (case q9c => decide)))))))
    by_cases c : 0 ≤ len ∧ len ≤ (0 : Nat)
    · have c1 := c.1
      have c2 := c.2
      (repeat' ((first | k_extra "w" | with_reducible refine isTrue_or_nil ?_ | (with_reducible refine' r_add ?_ <;> intro _ _) | ((with_reducible refine' r_mod ?q9b ?_); (case q9b => decide); intro _ _) | ((with_reducible refine' r_isCls ?q9G ?q9X ?q9I ?q9J ?q9c ?_); (case q9G | q9X => assumption); (case q9I | q9J => k_extra "ins"); (case q9c => decide)))))
      refine cal (by assumption) (sp_codes (x := Str.ofString "...)") (by decide +kernel)) ?_
      rintro v nw h' t' ⟨D, cs, nq, rfl, rfl, hcs⟩ G
      have hcs : IntsAre cs [46, 46, 46, 41] := by rw [show codesOf (Str.ofString "...)") = [46, 46, 46, 41] by decide +kernel] at hcs; exact hcs
      have hcl : cs.length = 4 := hcs.length
      (repeat' ((first | k_extra "w" | with_reducible refine isTrue_or_nil ?_ | (with_reducible refine' r_add ?_ <;> intro _ _) | ((with_reducible refine' r_mod ?q9b ?_); (case q9b => decide); intro _ _) | ((with_reducible refine' r_isCls ?q9G ?q9X ?q9I ?q9J ?q9c ?_); (case q9G | q9X => assumption); (case q9I | q9J => k_extra "ins"); (case q9c => decide)))))
      have hcs : IntsAre cs ((if (0 : Nat) = 0 then [] else [32]) ++ [46, 46, 46, 41]) := by simpa using hcs
      exact hQ _ _ <| r_backP (by assumption) ⟨rfl, .inl ⟨c, cs, _, rfl, hcs⟩⟩ (by k_extra "sel")
    · have cc : ¬ 0 ≤ len ∨ (0 ≤ len ∧ ¬ len ≤ (0 : Nat)) := by omega
      refine cutN (by assumption) ?_ ?_
      · intro BQ hBQ
        rcases cc with c1 | ⟨c1, c2⟩ <;> ((repeat' ((first | k_extra "w" | with_reducible refine isTrue_or_nil ?_ | (with_reducible refine' r_add ?_ <;> intro _ _) | ((with_reducible refine' r_mod ?q9b ?_); (case q9b => decide); intro _ _) | ((with_reducible refine' r_isCls ?q9G ?q9X ?q9I ?q9J ?q9c ?_); (case q9G | q9X => assumption); (case q9I | q9J => k_extra "ins"); (case q9c => decide))))); exact hBQ _ _ (by assumption))
      intro h' t' G
      (repeat' ((first | k_extra "w" | with_reducible refine isTrue_or_nil ?_ | (with_reducible refine' r_add ?_ <;> intro _ _) | ((with_reducible refine' r_mod ?q9b ?_); (case q9b => decide); intro _ _) | ((with_reducible refine' r_isCls ?q9G ?q9X ?q9I ?q9J ?q9c ?_); (case q9G | q9X => assumption); (case q9I | q9J => k_extra "ins"); (case q9c => decide)))))
      rcases hh with ⟨ev, rfl⟩ | ⟨ev, rfl⟩
      · omega
      exact hQ _ _ <| r_backP0 (by assumption) ⟨rfl, .inr ⟨c, [], _, _, _, _, _, _, _, rfl, .nil⟩⟩ (by rw [List.append_nil vs]; k_extra "sel")
  · have hne := ne hp0
    have hi0 : ¬ i = 0 := by omega
    simp only [if_neg hi0]
    ((unfold SP; k_fill; refine' Sp.def ?ho ?hcd ?hb ?hl ?h1 ?h2 ?h3 ?h4 ?_; (case ho | hcd => k_is); (case hb => first | exact fun _ _ => BindsTo.of_eq (binds := [(_, _)]) rfl | exact fun _ _ => BindsTo.of_eq (binds := [(_, _), (_, _)]) rfl | exact fun _ _ => BindsTo.of_eq (binds := [(_, _), (_, _), (_, _)]) rfl | exact fun _ _ => BindsTo.of_eq (binds := [(_, _), (_, _), (_, _), (_, _)]) rfl | exact fun _ _ => BindsTo.of_eq rfl); (case hl => exact locs rfl); (case h1 | h2 | h3 => exact rfl); (case h4 => decide); intro _ _ _ _ _ _ _ _ _ _ _ _ _ _; ((refine wpAny_hide ?_; intro _ hQ))))
    (repeat' ((first | k_extra "w" | with_reducible refine isTrue_or_nil ?_ | (with_reducible refine' r_add ?_ <;> intro _ _) | ((with_reducible refine' r_mod ?q9b ?_); (case q9b => decide); intro _ _) | ((with_reducible refine' r_isCls ?q9G ?q9X ?q9I ?q9J ?q9c ?_); (case q9G | q9X => assumption); (case q9I | q9J => k_extra "ins"); (case q9c => decide)))))
    refine cal (by assumption) (sp_dotted_no (hp.mono (by k_extra "sub")) (ho.mono (by k_extra "sub")) (hx.mono (by k_extra "sub")) (hy.mono (by k_extra "sub")) hne) ?_
    rintro v nw h' t' ⟨rfl, rfl⟩ G
    (repeat' ((((fail_if_success (with_reducible refine r_stopB ?_)); (fail_if_success (with_reducible refine r_stopE ?_)); (first | k_extra "w" | with_reducible refine isTrue_or_nil ?_ | (with_reducible refine' r_add ?_ <;> intro _ _) | ((with_reducible refine' r_mod ?q9b ?_); (case q9b => decide); intro _ _) | ((with_reducible refine' r_isCls ?q9G ?q9X ?q9I ?q9J ?q9c ?_); (case q9G | q9X => assumption); (case q9I | q9J => k_extra "ins"); (case q9c => decide)))))))
    by_cases c : 0 ≤ len ∧ len ≤ (i : Nat)
    · have c1 := c.1
      have c2 := c.2
      (repeat' ((first | k_extra "w" | with_reducible refine isTrue_or_nil ?_ | (with_reducible refine' r_add ?_ <;> intro _ _) | ((with_reducible refine' r_mod ?q9b ?_); (case q9b => decide); intro _ _) | ((with_reducible refine' r_isCls ?q9G ?q9X ?q9I ?q9J ?q9c ?_); (case q9G | q9X => assumption); (case q9I | q9J => k_extra "ins"); (case q9c => decide)))))
      refine cal (by assumption) (sp_codes (x := Str.ofString "...)") (by decide +kernel)) ?_
      rintro v nw h' t' ⟨D, cs, nq, rfl, rfl, hcs⟩ G
      have hcs : IntsAre cs [46, 46, 46, 41] := by rw [show codesOf (Str.ofString "...)") = [46, 46, 46, 41] by decide +kernel] at hcs; exact hcs
      have hcl : cs.length = 4 := hcs.length
      (repeat' ((first | k_extra "w" | with_reducible refine isTrue_or_nil ?_ | (with_reducible refine' r_add ?_ <;> intro _ _) | ((with_reducible refine' r_mod ?q9b ?_); (case q9b => decide); intro _ _) | ((with_reducible refine' r_isCls ?q9G ?q9X ?q9I ?q9J ?q9c ?_); (case q9G | q9X => assumption); (case q9I | q9J => k_extra "ins"); (case q9c => decide)))))
      exact hQ _ _ <| r_backP (by assumption) ⟨rfl, .inl ⟨c, [.int 32 _] ++ cs, _, rfl, .cons _ _ hcs⟩⟩ (by rw [← List.append_assoc vs]; k_extra "sel")
    · have cc : ¬ 0 ≤ len ∨ (0 ≤ len ∧ ¬ len ≤ (i : Nat)) := by omega
      refine cutN (by assumption) ?_ ?_
      · intro BQ hBQ
        rcases cc with c1 | ⟨c1, c2⟩ <;> ((repeat' ((first | k_extra "w" | with_reducible refine isTrue_or_nil ?_ | (with_reducible refine' r_add ?_ <;> intro _ _) | ((with_reducible refine' r_mod ?q9b ?_); (case q9b => decide); intro _ _) | ((with_reducible refine' r_isCls ?q9G ?q9X ?q9I ?q9J ?q9c ?_); (case q9G | q9X => assumption); (case q9I | q9J => k_extra "ins"); (case q9c => decide))))); exact hBQ _ _ (by assumption))
      intro h' t' G
      (repeat' ((first | k_extra "w" | with_reducible refine isTrue_or_nil ?_ | (with_reducible refine' r_add ?_ <;> intro _ _) | ((with_reducible refine' r_mod ?q9b ?_); (case q9b => decide); intro _ _) | ((with_reducible refine' r_isCls ?q9G ?q9X ?q9I ?q9J ?q9c ?_); (case q9G | q9X => assumption); (case q9I | q9J => k_extra "ins"); (case q9c => decide)))))
      rcases hh with ⟨ev, rfl⟩ | ⟨ev, rfl⟩
      · have ev1 : ((i : Int) % 2 = 1) := by omega
        (repeat' ((first | k_extra "w" | with_reducible refine isTrue_or_nil ?_ | (with_reducible refine' r_add ?_ <;> intro _ _) | ((with_reducible refine' r_mod ?q9b ?_); (case q9b => decide); intro _ _) | ((with_reducible refine' r_isCls ?q9G ?q9X ?q9I ?q9J ?q9c ?_); (case q9G | q9X => assumption); (case q9I | q9J => k_extra "ins"); (case q9c => decide)))))
        exact hQ _ _ <| r_backP0 (by assumption) ⟨rfl, .inr ⟨c, [.int 32 _], _, _, _, _, _, _, _, rfl, .cons _ _ .nil⟩⟩ (by k_extra "sel")
      · have ev1 : ¬ ((i : Int) % 2 = 1) := by omega
        (repeat' ((first | k_extra "w" | with_reducible refine isTrue_or_nil ?_ | (with_reducible refine' r_add ?_ <;> intro _ _) | ((with_reducible refine' r_mod ?q9b ?_); (case q9b => decide); intro _ _) | ((with_reducible refine' r_isCls ?q9G ?q9X ?q9I ?q9J ?q9c ?_); (case q9G | q9X => assumption); (case q9I | q9J => k_extra "ins"); (case q9c => decide)))))
        exact hQ _ _ <| r_backP0 (by assumption) ⟨rfl, .inr ⟨c, [.int 32 _], _, _, _, _, _, _, _, rfl, .cons _ _ .nil⟩⟩ (by k_extra "sel")
end
section
variable {w : World} {p : Program} {loose : List Str} {mean : ExcName → Option Value} {mg mb : Str → Option Value} {rest : List (Addr × Obj)}
variable {pA cA jA rA oA : Addr} {ob lb len qu : Value} {lev : Int} {lt : Tok} {vs js ar : List Value} {n1 n2 n3 : Nat} {k1 k2 : Nat → Int} {t1 t2 : Nat → Tok}
theorem sp_row_ring {x : Addr} {k : Nat → Int} {t : Nat → Tok} {car cdr : Value} {i : Nat} {len : Int} {u lu : Tok} (hp : InsIn (fr.heap_1 w.params) rest pA 429 (prE k1 t1 oA ob lb cA jA rA)) (ho : InsIn (fr.heap_1 w.params) rest oA 312 (opE k2 t2 (.int len lu) (.int lev lt) qu))
    (hx : InsIn (fr.heap_1 w.params) rest x 98 (coE k t car cdr)) (hs : vs.length ≤ 1000000) (hjs : js.length ≤ 1000) (hi0 : 0 < i) (hi : i ≤ 1000) (hf : (Str.ofString (toString ((i : Int) / 2))).length ≤ 10) :
    SP w p loose mean mg mb (.ref 412) [.ref pA, .ref x, .int (i : Int) u, .ref x] 20 60 (PL cA jA rA vs js ar n1 n2 n3 rest) (fun r nw => r = .none ∧ (
      ∃ vs' n1' n2' q1 q2 u3 u4 u5 u6, nw = PL cA jA rA (vs ++ vs') (js ++ [.ref q1] ++ [.ref q2]) ar n1' n2' n3 ((q2, tupOf [.int 1 u3, .str (Str.empty ++ Str.ofString "#" ++ Str.ofString (toString ((i : Int) / 2))) u4]) :: (q1, tupOf [.int 1 u5, .str (Str.ofString ")") u6]) :: rest) ∧ IntsAre vs' [32, 46, 32])) := by
  ((unfold SP; k_fill; refine' Sp.def ?ho ?hcd ?hb ?hl ?h1 ?h2 ?h3 ?h4 ?_; (case ho | hcd => k_is); (case hb => first | exact fun _ _ => BindsTo.of_eq (binds := [(_, _)]) rfl | exact fun _ _ => BindsTo.of_eq (binds := [(_, _), (_, _)]) rfl | exact fun _ _ => BindsTo.of_eq (binds := [(_, _), (_, _), (_, _)]) rfl | exact fun _ _ => BindsTo.of_eq (binds := [(_, _), (_, _), (_, _), (_, _)]) rfl | exact fun _ _ => BindsTo.of_eq rfl); (case hl => exact locs rfl); (case h1 | h2 | h3 => exact rfl); (case h4 => decide); intro _ _ _ _ _ _ _ _ _ _ _ _ _ _; ((refine wpAny_hide ?_; intro _ hQ))))
  (repeat' ((first | k_extra "w" | with_reducible refine' r_joined ?_ | with_reducible refine' r_fmt ?_ | with_reducible refine' r_jpart ?_ | ((with_reducible refine' r_jnil ?q9z ?_); (case q9z => k_extra "size"); intro _ _) | ((with_reducible refine' r_fdiv ?q9b ?q9s ?_); (case q9b | q9s => decide); intro _ _) | ((with_reducible refine' r_isCls ?q9G ?q9X ?q9I ?q9J ?q9c ?_); (case q9G | q9X => assumption); (case q9I | q9J => k_extra "ins"); (case q9c => decide)))))
  refine cal (by assumption) (sp_dotted_yes (hp.mono (by k_extra "sub")) (ho.mono (by k_extra "sub"))) ?_
  rintro v nw h' t' ⟨rfl, rfl⟩ G
  (repeat' ((first | k_extra "w" | with_reducible refine' r_joined ?_ | with_reducible refine' r_fmt ?_ | with_reducible refine' r_jpart ?_ | ((with_reducible refine' r_jnil ?q9z ?_); (case q9z => k_extra "size"); intro _ _) | ((with_reducible refine' r_fdiv ?q9b ?q9s ?_); (case q9b | q9s => decide); intro _ _) | ((with_reducible refine' r_isCls ?q9G ?q9X ?q9I ?q9J ?q9c ?_); (case q9G | q9X => assumption); (case q9I | q9J => k_extra "ins"); (case q9c => decide)))))
  refine cal (by assumption) (sp_codes (x := Str.ofString " . ") (by decide +kernel)) ?_
  rintro v nw h' t' ⟨D, cs, nq, rfl, rfl, hcs⟩ G
  have hcs : IntsAre cs [32, 46, 32] := by rw [show codesOf (Str.ofString " . ") = [32, 46, 32] by decide +kernel] at hcs; exact hcs
  have hcl : cs.length = 3 := hcs.length
  (repeat' ((first | k_extra "w" | with_reducible refine' r_joined ?_ | with_reducible refine' r_fmt ?_ | with_reducible refine' r_jpart ?_ | ((with_reducible refine' r_jnil ?q9z ?_); (case q9z => k_extra "size"); intro _ _) | ((with_reducible refine' r_fdiv ?q9b ?q9s ?_); (case q9b | q9s => decide); intro _ _) | ((with_reducible refine' r_isCls ?q9G ?q9X ?q9I ?q9J ?q9c ?_); (case q9G | q9X => assumption); (case q9I | q9J => k_extra "ins"); (case q9c => decide)))))
  refine ⟨_, _, rfl, by decide +kernel, ?_⟩
  (repeat' ((first | k_extra "w" | with_reducible refine' r_joined ?_ | with_reducible refine' r_fmt ?_ | with_reducible refine' r_jpart ?_ | ((with_reducible refine' r_jnil ?q9z ?_); (case q9z => k_extra "size"); intro _ _) | ((with_reducible refine' r_fdiv ?q9b ?q9s ?_); (case q9b | q9s => decide); intro _ _) | ((with_reducible refine' r_isCls ?q9G ?q9X ?q9I ?q9J ?q9c ?_); (case q9G | q9X => assumption); (case q9I | q9J => k_extra "ins"); (case q9c => decide)))))
  have hlog : ((i : Int) / 2).natAbs.log2 < 1920 := by have := Nat.log2_le_self ((i : Int) / 2).natAbs; omega
  refine r_fmtInt hlog fun u' t' => ?_
  have hjz : (Str.empty ++ Str.ofString "#" ++ Str.ofString (toString ((i : Int) / 2))).length ≤ sizeLine := by
    have e1 : (Str.empty ++ Str.ofString "#").length = 1 := by decide +kernel
    have := sizeLine_eq
    rw [PySem.Str.length_append, e1]; omega
  refine ⟨_, _, rfl, hjz, ?_⟩
  (repeat' ((first | k_extra "w" | with_reducible refine' r_joined ?_ | with_reducible refine' r_fmt ?_ | with_reducible refine' r_jpart ?_ | ((with_reducible refine' r_jnil ?q9z ?_); (case q9z => k_extra "size"); intro _ _) | ((with_reducible refine' r_fdiv ?q9b ?q9s ?_); (case q9b | q9s => decide); intro _ _) | ((with_reducible refine' r_isCls ?q9G ?q9X ?q9I ?q9J ?q9c ?_); (case q9G | q9X => assumption); (case q9I | q9J => k_extra "ins"); (case q9c => decide)))))
  exact hQ _ _ <| r_backP (by assumption) ⟨rfl, cs, _, _, _, _, _, _, _, _, rfl, hcs⟩ (by k_extra "sel")
theorem sp_cells_end {l : Addr} {ts : List Value} {n : Nat} {u : Tok} (hp : InsIn (fr.heap_1 w.params) rest pA 429 (prE k1 t1 oA ob lb cA jA rA)) (hl : (l, listOf ts.toArray n) ∈ rest) (hts : ts.length ≤ 1000) (hs : vs.length ≤ 1000000) :
    SP w p loose mean mg mb (.ref 426) [.ref pA, .ref l, .int (ts.length : Int) u] 20 60 (PL cA jA rA vs js ar n1 n2 n3 rest) (fun r nw => r = .none ∧ ∃ vs' n1', nw = PL cA jA rA (vs ++ vs') js ar n1' n2 n3 rest ∧ IntsAre vs' [93]) := by
  ((unfold SP; k_fill; refine' Sp.def ?ho ?hcd ?hb ?hl ?h1 ?h2 ?h3 ?h4 ?_; (case ho | hcd => k_is); (case hb => first | exact fun _ _ => BindsTo.of_eq (binds := [(_, _)]) rfl | exact fun _ _ => BindsTo.of_eq (binds := [(_, _), (_, _)]) rfl | exact fun _ _ => BindsTo.of_eq (binds := [(_, _), (_, _), (_, _)]) rfl | exact fun _ _ => BindsTo.of_eq (binds := [(_, _), (_, _), (_, _), (_, _)]) rfl | exact fun _ _ => BindsTo.of_eq rfl); (case hl => exact locs rfl); (case h1 | h2 | h3 => exact rfl); (case h4 => decide); intro _ _ _ _ _ _ _ _ _ _ _ _ _ _; ((refine wpAny_hide ?_; intro _ hQ))))
  (repeat' (k_extra "w"))
  exact hQ _ _ <| r_backP (by assumption) ⟨rfl, [.int 93 _], _, rfl, .cons _ _ .nil⟩ (by k_extra "sel")
theorem sp_cells_next {l : Addr} {ts : List Value} {n : Nat} {i : Nat} {v : Value} {len : Int} {u lu : Tok} (hp : InsIn (fr.heap_1 w.params) rest pA 429 (prE k1 t1 oA ob lb cA jA rA)) (ho : InsIn (fr.heap_1 w.params) rest oA 312 (opE k2 t2 (.int len lu) (.int lev lt) qu))
    (hl : (l, listOf ts.toArray n) ∈ rest) (hts : ts.length ≤ 1000) (hv : ts[i]? = some v) (hs : vs.length ≤ 1000000) (hjs : js.length ≤ 1000) :
    SP w p loose mean mg mb (.ref 426) [.ref pA, .ref l, .int (i : Int) u] 20 60 (PL cA jA rA vs js ar n1 n2 n3 rest) (fun r nw => r = .none ∧ (
      ((0 ≤ len ∧ len ≤ i) ∧ ∃ vs' n1', nw = PL cA jA rA (vs ++ vs') js ar n1' n2 n3 rest ∧ IntsAre vs' ((if i = 0 then [] else [32]) ++ [46, 46, 46, 93])) ∨
      (¬ (0 ≤ len ∧ len ≤ i) ∧ ∃ vs' n1' n2' q1 q2 u3 u4 u5, nw = PL cA jA rA (vs ++ vs') (js ++ [.ref q1] ++ [.ref q2]) ar n1' n2' n3 ((q2, tupOf [.int 0 u3, v]) :: (q1, tupOf [.int 3 u4, .ref l, .int ((i : Int) + 1) u5]) :: rest) ∧ IntsAre vs' (if i = 0 then [] else [32])))) := by
  have hil : i < ts.length := by
    rcases Nat.lt_or_ge i ts.length with q | q
    · exact q
    · rw [List.getElem?_eq_none q] at hv; cases hv
  rcases Nat.eq_zero_or_pos i with rfl | hp0
  · ((unfold SP; k_fill; refine' Sp.def ?ho ?hcd ?hb ?hl ?h1 ?h2 ?h3 ?h4 ?_; (case ho | hcd => k_is); (case hb => first | exact fun _ _ => BindsTo.of_eq (binds := [(_, _)]) rfl | exact fun _ _ => BindsTo.of_eq (binds := [(_, _), (_, _)]) rfl | exact fun _ _ => BindsTo.of_eq (binds := [(_, _), (_, _), (_, _)]) rfl | exact fun _ _ => BindsTo.of_eq (binds := [(_, _), (_, _), (_, _), (_, _)]) rfl | exact fun _ _ => BindsTo.of_eq rfl); (case hl => exact locs rfl); (case h1 | h2 | h3 => exact rfl); (case h4 => decide); intro _ _ _ _ _ _ _ _ _ _ _ _ _ _; ((refine wpAny_hide ?_; intro _ hQ))))
    (repeat' ((((fail_if_success (with_reducible refine r_stopB ?_)); (fail_if_success (with_reducible refine r_stopE ?_)); (first | k_extra "w" | (with_reducible refine' r_add ?_ <;> intro _ _))))))
    by_cases c : 0 ≤ len ∧ len ≤ (0 : Nat)
    · have c1 := c.1
      have c2 := c.2
      (repeat' ((first | k_extra "w" | (with_reducible refine' r_add ?_ <;> intro _ _))))
      refine cal (by assumption) (sp_codes (x := Str.ofString "...]") (by decide +kernel)) ?_
      rintro v nw h' t' ⟨D, cs, nq, rfl, rfl, hcs⟩ G
      have hcs : IntsAre cs [46, 46, 46, 93] := by rw [show codesOf (Str.ofString "...]") = [46, 46, 46, 93] by decide +kernel] at hcs; exact hcs
      have hcl : cs.length = 4 := hcs.length
      (repeat' ((first | k_extra "w" | (with_reducible refine' r_add ?_ <;> intro _ _))))
      have hcs : IntsAre cs ((if (0 : Nat) = 0 then [] else [32]) ++ [46, 46, 46, 93]) := by simpa using hcs
      exact hQ _ _ <| r_backP (by assumption) ⟨rfl, .inl ⟨c, cs, _, rfl, hcs⟩⟩ (by k_extra "sel")
    · have cc : ¬ 0 ≤ len ∨ (0 ≤ len ∧ ¬ len ≤ (0 : Nat)) := by omega
      refine cutN (by assumption) ?_ ?_
      · intro BQ hBQ
        rcases cc with c1 | ⟨c1, c2⟩ <;> ((repeat' ((first | k_extra "w" | (with_reducible refine' r_add ?_ <;> intro _ _)))); exact hBQ _ _ (by assumption))
      intro h' t' G
      (repeat' ((first | k_extra "w" | (with_reducible refine' r_add ?_ <;> intro _ _))))
      refine r_item (by assumption) (by k_extra "mem") (by k_extra "le") (by k_extra "le") (v := v) (by simpa using hv) (by with_unfolding_all rfl) ?_
      (repeat' ((first | k_extra "w" | (with_reducible refine' r_add ?_ <;> intro _ _))))
      exact hQ _ _ <| r_backP0 (by assumption) ⟨rfl, .inr ⟨c, [], _, _, _, _, _, _, _, rfl, .nil⟩⟩ (by rw [List.append_nil vs]; k_extra "sel")
  · have hi0 : ¬ i = 0 := by omega
    simp only [if_neg hi0]
    ((unfold SP; k_fill; refine' Sp.def ?ho ?hcd ?hb ?hl ?h1 ?h2 ?h3 ?h4 ?_; (case ho | hcd => k_is); (case hb => first | exact fun _ _ => BindsTo.of_eq (binds := [(_, _)]) rfl | exact fun _ _ => BindsTo.of_eq (binds := [(_, _), (_, _)]) rfl | exact fun _ _ => BindsTo.of_eq (binds := [(_, _), (_, _), (_, _)]) rfl | exact fun _ _ => BindsTo.of_eq (binds := [(_, _), (_, _), (_, _), (_, _)]) rfl | exact fun _ _ => BindsTo.of_eq rfl); (case hl => exact locs rfl); (case h1 | h2 | h3 => exact rfl); (case h4 => decide); intro _ _ _ _ _ _ _ _ _ _ _ _ _ _; ((refine wpAny_hide ?_; intro _ hQ))))
    (repeat' ((((fail_if_success (with_reducible refine r_stopB ?_)); (fail_if_success (with_reducible refine r_stopE ?_)); (first | k_extra "w" | (with_reducible refine' r_add ?_ <;> intro _ _))))))
    by_cases c : 0 ≤ len ∧ len ≤ (i : Nat)
    · have c1 := c.1
      have c2 := c.2
      (repeat' ((first | k_extra "w" | (with_reducible refine' r_add ?_ <;> intro _ _))))
      refine cal (by assumption) (sp_codes (x := Str.ofString "...]") (by decide +kernel)) ?_
      rintro v nw h' t' ⟨D, cs, nq, rfl, rfl, hcs⟩ G
      have hcs : IntsAre cs [46, 46, 46, 93] := by rw [show codesOf (Str.ofString "...]") = [46, 46, 46, 93] by decide +kernel] at hcs; exact hcs
      have hcl : cs.length = 4 := hcs.length
      (repeat' ((first | k_extra "w" | (with_reducible refine' r_add ?_ <;> intro _ _))))
      exact hQ _ _ <| r_backP (by assumption) ⟨rfl, .inl ⟨c, [.int 32 _] ++ cs, _, rfl, .cons _ _ hcs⟩⟩ (by rw [← List.append_assoc vs]; k_extra "sel")
    · have cc : ¬ 0 ≤ len ∨ (0 ≤ len ∧ ¬ len ≤ (i : Nat)) := by omega
      refine cutN (by assumption) ?_ ?_
      · intro BQ hBQ
        rcases cc with c1 | ⟨c1, c2⟩ <;> ((repeat' ((first | k_extra "w" | (with_reducible refine' r_add ?_ <;> intro _ _)))); exact hBQ _ _ (by assumption))
      intro h' t' G
      (repeat' ((first | k_extra "w" | (with_reducible refine' r_add ?_ <;> intro _ _))))
      refine r_item (by assumption) (by k_extra "mem") (by k_extra "le") (by k_extra "le") (v := v) (by simpa using hv) (by with_unfolding_all rfl) ?_
      (repeat' ((first | k_extra "w" | (with_reducible refine' r_add ?_ <;> intro _ _))))
      exact hQ _ _ <| r_backP0 (by assumption) ⟨rfl, .inr ⟨c, [.int 32 _], _, _, _, _, _, _, _, rfl, .cons _ _ .nil⟩⟩ (by k_extra "sel")
theorem sp_datum_cons {P : List (Addr × Obj) → Prop} {x : Addr} {k : Nat → Int} {t : Nat → Tok} {car cdr : Value} (hx : InsIn (fr.heap_1 w.params) rest x 98 (coE k t car cdr)) (hp : InsIn (fr.heap_1 w.params) rest pA 429 (prE k1 t1 oA ob lb cA jA rA)) (ho : InsIn (fr.heap_1 w.params) rest oA 312 (opE k2 t2 len (.int lev lt) qu))
    (S : SP w p loose mean mg mb (.ref 398) [.ref pA, .ref x] 20 60 (PL cA jA rA vs js ar n1 n2 n3 rest) (fun r nw => r = .none ∧ P nw)) :
    SP w p loose mean mg mb (.ref 384) [.ref pA, .ref x] 26 100 (PL cA jA rA vs js ar n1 n2 n3 rest) (fun r nw => r = .none ∧ P nw) := by
  ((unfold SP; k_fill; refine' Sp.def ?ho ?hcd ?hb ?hl ?h1 ?h2 ?h3 ?h4 ?_; (case ho | hcd => k_is); (case hb => first | exact fun _ _ => BindsTo.of_eq (binds := [(_, _)]) rfl | exact fun _ _ => BindsTo.of_eq (binds := [(_, _), (_, _)]) rfl | exact fun _ _ => BindsTo.of_eq (binds := [(_, _), (_, _), (_, _)]) rfl | exact fun _ _ => BindsTo.of_eq (binds := [(_, _), (_, _), (_, _), (_, _)]) rfl | exact fun _ _ => BindsTo.of_eq rfl); (case hl => exact locs rfl); (case h1 | h2 | h3 => exact rfl); (case h4 => decide); intro _ _ _ _ _ _ _ _ _ _ _ _ _ _; ((refine wpAny_hide ?_; intro _ hQ))))
  (repeat' (k_extra "w"))
  refine cal (by assumption) (sp_whole_obj (hx.mono (by k_extra "sub")) iok_cons k98) ?_
  rintro v nw h' t' ⟨rfl, rfl⟩ G
  (repeat' (k_extra "w"))
  refine cal (by assumption) (sp_labelled (hp.mono (by k_extra "sub")) (ho.mono (by k_extra "sub"))) ?_
  rintro v nw h' t' ⟨rfl, rfl⟩ G
  (repeat' (k_extra "w"))
  refine cal (by assumption) S ?_
  rintro v nw h' t' ⟨rfl, hP⟩ G
  (repeat' (k_extra "w"))
  exact hQ _ _ <| r_backP0 (by assumption) ⟨rfl, hP⟩ (by k_extra "sel")
theorem sp_datum_vec {P : List (Addr × Obj) → Prop} {x : Addr} {k : Nat → Int} {t : Nat → Tok} {l : Addr} (hx : InsIn (fr.heap_1 w.params) rest x 141 (veE k t l)) (hp : InsIn (fr.heap_1 w.params) rest pA 429 (prE k1 t1 oA ob lb cA jA rA)) (ho : InsIn (fr.heap_1 w.params) rest oA 312 (opE k2 t2 len (.int lev lt) qu))
    (S : SP w p loose mean mg mb (.ref 398) [.ref pA, .ref x] 20 60 (PL cA jA rA vs js ar n1 n2 n3 rest) (fun r nw => r = .none ∧ P nw)) :
    SP w p loose mean mg mb (.ref 384) [.ref pA, .ref x] 26 100 (PL cA jA rA vs js ar n1 n2 n3 rest) (fun r nw => r = .none ∧ P nw) := by
  ((unfold SP; k_fill; refine' Sp.def ?ho ?hcd ?hb ?hl ?h1 ?h2 ?h3 ?h4 ?_; (case ho | hcd => k_is); (case hb => first | exact fun _ _ => BindsTo.of_eq (binds := [(_, _)]) rfl | exact fun _ _ => BindsTo.of_eq (binds := [(_, _), (_, _)]) rfl | exact fun _ _ => BindsTo.of_eq (binds := [(_, _), (_, _), (_, _)]) rfl | exact fun _ _ => BindsTo.of_eq (binds := [(_, _), (_, _), (_, _), (_, _)]) rfl | exact fun _ _ => BindsTo.of_eq rfl); (case hl => exact locs rfl); (case h1 | h2 | h3 => exact rfl); (case h4 => decide); intro _ _ _ _ _ _ _ _ _ _ _ _ _ _; ((refine wpAny_hide ?_; intro _ hQ))))
  (repeat' (k_extra "w"))
  refine cal (by assumption) (sp_whole_obj (hx.mono (by k_extra "sub")) iok_vec k141) ?_
  rintro v nw h' t' ⟨rfl, rfl⟩ G
  (repeat' (k_extra "w"))
  refine cal (by assumption) (sp_labelled (hp.mono (by k_extra "sub")) (ho.mono (by k_extra "sub"))) ?_
  rintro v nw h' t' ⟨rfl, rfl⟩ G
  (repeat' (k_extra "w"))
  refine cal (by assumption) S ?_
  rintro v nw h' t' ⟨rfl, hP⟩ G
  (repeat' (k_extra "w"))
  exact hQ _ _ <| r_backP0 (by assumption) ⟨rfl, hP⟩ (by k_extra "sel")
end
section
section
variable {prog : Program} {w : World} {A : Around} {env : Env} {test : Expr} {body : List Stmt} {Q : Flow → Shared → Prop} {h₀ : Heap} {L : Addr} {g : Array GenState} {d : Drawn} {os : OsState} {pA cA jA rA : Addr}
/-- the loop of the printer, started at a state -/
noncomputable def LoopP (prog : Program) (w : World) (A : Around) (env : Env) (test : Expr) (body : List Stmt) (Q : Flow → Shared → Prop) (h₀ : Heap) (L : Addr) (g : Array GenState) (d : Drawn) (os : OsState) (pA cA jA rA : Addr)
    (cs : List Int) (js ar : List Value) (rest : List (Addr × Obj)) : Prop :=
  ∀ vs n1 n2 n3 h t m, IntsAre vs cs → m (Str.ofString "self") = some (.ref pA) → Lg h₀ L h m (PL cA jA rA vs js ar n1 n2 n3 rest) → WhR prog w A env test body Q ⟨h, g, d, t, os⟩
theorem LoopP.use {cs : List Int} {js ar : List Value} {rest : List (Addr × Obj)} {vs : List Value} {n1 n2 n3 : Nat} {h : Heap} {t : Nat} {m : Str → Option Value} (K : LoopP prog w A env test body Q h₀ L g d os pA cA jA rA cs js ar rest) (hvs : IntsAre vs cs) (hm : m (Str.ofString "self") = some (.ref pA)) (G : Lg h₀ L h m (PL cA jA rA vs js ar n1 n2 n3 rest)) :
    WhR prog w A env test body Q ⟨h, g, d, t, os⟩ := K _ _ _ _ _ _ _ hvs hm G
theorem LoopP.go {cs : List Int} {js ar : List Value} {rest : List (Addr × Obj)} {vs : List Value} {n1 n2 n3 : Nat} {h : Heap} {t : Nat} {m : Str → Option Value} (K : LoopP prog w A env test body Q h₀ L g d os pA cA jA rA cs js ar rest) (G : Lg h₀ L h m (PL cA jA rA vs js ar n1 n2 n3 rest)) (hvs : IntsAre vs cs) (hm : m (Str.ofString "self") = some (.ref pA)) :
    WhR prog w A env test body Q ⟨h, g, d, t, os⟩ := K _ _ _ _ _ _ _ hvs hm G
end
noncomputable abbrev LPT := List Int → List Value → List Value → List (Addr × Obj) → Prop
noncomputable def Aft (cA jA rA : Addr) (LP : LPT) (nw : List (Addr × Obj)) : Prop := ∃ vs js ar n1 n2 n3 rest cs, nw = PL cA jA rA vs js ar n1 n2 n3 rest ∧ IntsAre vs cs ∧ LP cs js ar rest
/-- what one turn of the loop does, by the job on top -/
structure Turns (w : World) (p : Program) (loose : List Str) (mean : ExcName → Option Value) (mg mb : Str → Option Value) (pA cA jA rA : Addr) (B : List (Addr × Obj) → Prop) (LP : LPT) : Prop where
  datum : ∀ cs js ar rest q u v, (q, tupOf [.int 0 u, v]) ∈ rest → B rest → js.length ≤ 900 →
    (∀ vs n1 n2 n3, IntsAre vs cs → SP w p loose mean mg mb (.ref 384) [.ref pA, v] 26 100 (PL cA jA rA vs js ar n1 n2 n3 rest) (fun r nw => r = .none ∧ Aft cA jA rA LP nw)) → LP cs (js ++ [.ref q]) ar rest
  row : ∀ cs js ar rest q u v i u2 half, (q, tupOf [.int 2 u, v, .int i u2, half]) ∈ rest → B rest → js.length ≤ 900 →
    (∀ vs n1 n2 n3, IntsAre vs cs → SP w p loose mean mg mb (.ref 412) [.ref pA, v, .int i u2, half] 20 60 (PL cA jA rA vs js ar n1 n2 n3 rest) (fun r nw => r = .none ∧ Aft cA jA rA LP nw)) → LP cs (js ++ [.ref q]) ar rest
  cells : ∀ cs js ar rest q u v i u2, (q, tupOf [.int 3 u, v, .int i u2]) ∈ rest → B rest → js.length ≤ 900 →
    (∀ vs n1 n2 n3, IntsAre vs cs → SP w p loose mean mg mb (.ref 426) [.ref pA, v, .int i u2] 20 60 (PL cA jA rA vs js ar n1 n2 n3 rest) (fun r nw => r = .none ∧ Aft cA jA rA LP nw)) → LP cs (js ++ [.ref q]) ar rest
  signs : ∀ cs js ar rest q u x u2, (q, tupOf [.int 1 u, .str x u2]) ∈ rest → B rest → js.length ≤ 900 → cs.length ≤ 1000000 → x.cps.size ≤ 100 → LP (cs ++ codesOf x) js ar rest → LP cs (js ++ [.ref q]) ar rest
  left : ∀ cs js ar rest q u a, (q, tupOf [.int 4 u, .none]) ∈ rest → B rest → js.length ≤ 900 → ar.length ≤ 900 → LP cs js ar rest → LP cs (js ++ [.ref q]) (ar ++ [a]) rest
variable {w : World} {p : Program} {loose : List Str} {mean : ExcName → Option Value} {mg mb : Str → Option Value} {rest : List (Addr × Obj)} {pA cA jA rA oA : Addr} {ob lb : Value} {n1 n2 n3 : Nat} {k1 : Nat → Int} {t1 : Nat → Tok}
theorem sp_printed_m {v : Value} {res : List Int} (hp : InsIn (fr.heap_1 w.params) rest pA 429 (prE k1 t1 oA ob lb cA jA rA))
    (plan : ∀ (LP : LPT), Turns w p loose mean mg mb pA cA jA rA (fun r => InsIn (fr.heap_1 w.params) r pA 429 (prE k1 t1 oA ob lb cA jA rA)) LP → (∀ rest', (∀ p ∈ rest, p ∈ rest') → LP res [] [] rest') → ∀ q u, LP [] ([] ++ [.ref q]) [] ((q, tupOf [.int 0 u, v]) :: rest)) :
    SP w p loose mean mg mb (.ref 377) [.ref pA, v] 32 120 (PL cA jA rA [] [] [] n1 n2 n3 rest) (fun r nw => r = .ref cA ∧ ∃ vs n1', nw = (cA, listOf vs.toArray n1') :: rest ∧ IntsAre vs res) := by
  ((unfold SP; k_fill; refine' Sp.def ?ho ?hcd ?hb ?hl ?h1 ?h2 ?h3 ?h4 ?_; (case ho | hcd => k_is); (case hb => first | exact fun _ _ => BindsTo.of_eq (binds := [(_, _)]) rfl | exact fun _ _ => BindsTo.of_eq (binds := [(_, _), (_, _)]) rfl | exact fun _ _ => BindsTo.of_eq (binds := [(_, _), (_, _), (_, _)]) rfl | exact fun _ _ => BindsTo.of_eq (binds := [(_, _), (_, _), (_, _), (_, _)]) rfl | exact fun _ _ => BindsTo.of_eq rfl); (case hl => exact locs rfl); (case h1 | h2 | h3 => exact rfl); (case h4 => decide); intro _ _ _ _ _ _ _ _ _ _ _ _ _ _; ((refine wpAny_hide ?_; intro _ hQ))))
  have nd0 := (‹Lg _ _ _ _ (PL cA jA rA [] [] [] n1 n2 n3 rest)›).nd
  (repeat' ((first | k_extra "w" | k_extra "while" | with_reducible refine r_wnext ?_ | with_reducible refine' r_cwB0 ?_ | ((with_reducible refine' r_lmeth ?q9G ?q9m PySem.F.slot_list_pop PySem.F.type_list_pop ?_); (case q9G => assumption); (case q9m => k_extra "mem")) | ((with_reducible refine' r_pop ?q9G ?q9U ?q9z ?_); (case q9G => assumption); (case q9U => k_extra "putf"); (case q9z => k_extra "size"); intro _ _ _) | ((with_reducible refine' r_itemT ?q9G ?q9m ?q9a ?q9b ?q9c ?q9d ?q9e ?_); (case q9G => assumption); (case q9m => k_extra "mem"); (case q9a | q9b => decide); (case q9c | q9d => exact rfl); (case q9e => with_unfolding_all rfl)))))
  refine LoopP.use (pA := pA) (cA := cA) (jA := jA) (rA := rA) (plan _ ⟨?datum, ?row, ?cells, ?signs, ?left⟩ ?fin _ _) .nil rfl (Lg.sel (by assumption) (by k_extra "sel"))
  case datum =>
    rintro cs js ar rest q u v hq hB hjs S vs n1 n2 n3 h t m hvs hm G
    have hlen : 0 < (js ++ [Value.ref q]).length := by simp
    refine r_wturn ?_
    (repeat' ((first | k_extra "w" | k_extra "while" | with_reducible refine r_wnext ?_ | with_reducible refine' r_cwB0 ?_ | ((with_reducible refine' r_lmeth ?q9G ?q9m PySem.F.slot_list_pop PySem.F.type_list_pop ?_); (case q9G => assumption); (case q9m => k_extra "mem")) | ((with_reducible refine' r_pop ?q9G ?q9U ?q9z ?_); (case q9G => assumption); (case q9U => k_extra "putf"); (case q9z => k_extra "size"); intro _ _ _) | ((with_reducible refine' r_itemT ?q9G ?q9m ?q9a ?q9b ?q9c ?q9d ?q9e ?_); (case q9G => assumption); (case q9m => k_extra "mem"); (case q9a | q9b => decide); (case q9c | q9d => exact rfl); (case q9e => with_unfolding_all rfl)))))
    refine cal (by assumption) (S _ _ _ _ hvs) ?_
    rintro v' nw h' t' ⟨rfl, vs', js', ar', n1, n2, n3, rest', cs', rfl, hvs', K⟩ G
    (repeat' ((first | k_extra "w" | k_extra "while" | with_reducible refine r_wnext ?_ | with_reducible refine' r_cwB0 ?_ | ((with_reducible refine' r_lmeth ?q9G ?q9m PySem.F.slot_list_pop PySem.F.type_list_pop ?_); (case q9G => assumption); (case q9m => k_extra "mem")) | ((with_reducible refine' r_pop ?q9G ?q9U ?q9z ?_); (case q9G => assumption); (case q9U => k_extra "putf"); (case q9z => k_extra "size"); intro _ _ _) | ((with_reducible refine' r_itemT ?q9G ?q9m ?q9a ?q9b ?q9c ?q9d ?q9e ?_); (case q9G => assumption); (case q9m => k_extra "mem"); (case q9a | q9b => decide); (case q9c | q9d => exact rfl); (case q9e => with_unfolding_all rfl)))))
    refine' LoopP.go K ?G hvs' ?hm
    case G => assumption
    case hm => exact hm
  case row =>
    rintro cs js ar rest q u v i u2 half hq hB hjs S vs n1 n2 n3 h t m hvs hm G
    have hlen : 0 < (js ++ [Value.ref q]).length := by simp
    refine r_wturn ?_
    (repeat' ((first | k_extra "w" | k_extra "while" | with_reducible refine r_wnext ?_ | with_reducible refine' r_cwB0 ?_ | ((with_reducible refine' r_lmeth ?q9G ?q9m PySem.F.slot_list_pop PySem.F.type_list_pop ?_); (case q9G => assumption); (case q9m => k_extra "mem")) | ((with_reducible refine' r_pop ?q9G ?q9U ?q9z ?_); (case q9G => assumption); (case q9U => k_extra "putf"); (case q9z => k_extra "size"); intro _ _ _) | ((with_reducible refine' r_itemT ?q9G ?q9m ?q9a ?q9b ?q9c ?q9d ?q9e ?_); (case q9G => assumption); (case q9m => k_extra "mem"); (case q9a | q9b => decide); (case q9c | q9d => exact rfl); (case q9e => with_unfolding_all rfl)))))
    refine cal (by assumption) (S _ _ _ _ hvs) ?_
    rintro v' nw h' t' ⟨rfl, vs', js', ar', n1, n2, n3, rest', cs', rfl, hvs', K⟩ G
    (repeat' ((first | k_extra "w" | k_extra "while" | with_reducible refine r_wnext ?_ | with_reducible refine' r_cwB0 ?_ | ((with_reducible refine' r_lmeth ?q9G ?q9m PySem.F.slot_list_pop PySem.F.type_list_pop ?_); (case q9G => assumption); (case q9m => k_extra "mem")) | ((with_reducible refine' r_pop ?q9G ?q9U ?q9z ?_); (case q9G => assumption); (case q9U => k_extra "putf"); (case q9z => k_extra "size"); intro _ _ _) | ((with_reducible refine' r_itemT ?q9G ?q9m ?q9a ?q9b ?q9c ?q9d ?q9e ?_); (case q9G => assumption); (case q9m => k_extra "mem"); (case q9a | q9b => decide); (case q9c | q9d => exact rfl); (case q9e => with_unfolding_all rfl)))))
    refine' LoopP.go K ?G hvs' ?hm
    case G => assumption
    case hm => exact hm
  case cells =>
    rintro cs js ar rest q u v i u2 hq hB hjs S vs n1 n2 n3 h t m hvs hm G
    have hlen : 0 < (js ++ [Value.ref q]).length := by simp
    refine r_wturn ?_
    (repeat' ((first | k_extra "w" | k_extra "while" | with_reducible refine r_wnext ?_ | with_reducible refine' r_cwB0 ?_ | ((with_reducible refine' r_lmeth ?q9G ?q9m PySem.F.slot_list_pop PySem.F.type_list_pop ?_); (case q9G => assumption); (case q9m => k_extra "mem")) | ((with_reducible refine' r_pop ?q9G ?q9U ?q9z ?_); (case q9G => assumption); (case q9U => k_extra "putf"); (case q9z => k_extra "size"); intro _ _ _) | ((with_reducible refine' r_itemT ?q9G ?q9m ?q9a ?q9b ?q9c ?q9d ?q9e ?_); (case q9G => assumption); (case q9m => k_extra "mem"); (case q9a | q9b => decide); (case q9c | q9d => exact rfl); (case q9e => with_unfolding_all rfl)))))
    refine cal (by assumption) (S _ _ _ _ hvs) ?_
    rintro v' nw h' t' ⟨rfl, vs', js', ar', n1, n2, n3, rest', cs', rfl, hvs', K⟩ G
    (repeat' ((first | k_extra "w" | k_extra "while" | with_reducible refine r_wnext ?_ | with_reducible refine' r_cwB0 ?_ | ((with_reducible refine' r_lmeth ?q9G ?q9m PySem.F.slot_list_pop PySem.F.type_list_pop ?_); (case q9G => assumption); (case q9m => k_extra "mem")) | ((with_reducible refine' r_pop ?q9G ?q9U ?q9z ?_); (case q9G => assumption); (case q9U => k_extra "putf"); (case q9z => k_extra "size"); intro _ _ _) | ((with_reducible refine' r_itemT ?q9G ?q9m ?q9a ?q9b ?q9c ?q9d ?q9e ?_); (case q9G => assumption); (case q9m => k_extra "mem"); (case q9a | q9b => decide); (case q9c | q9d => exact rfl); (case q9e => with_unfolding_all rfl)))))
    refine' LoopP.go K ?G hvs' ?hm
    case G => assumption
    case hm => exact hm
  case signs =>
    rintro cs js ar rest q u x u2 hq hB hjs hcs hx K vs n1 n2 n3 h t m hvs hm G
    have hlen : 0 < (js ++ [Value.ref q]).length := by simp
    refine r_wturn ?_
    (repeat' ((first | k_extra "w" | k_extra "while" | with_reducible refine r_wnext ?_ | with_reducible refine' r_cwB0 ?_ | ((with_reducible refine' r_lmeth ?q9G ?q9m PySem.F.slot_list_pop PySem.F.type_list_pop ?_); (case q9G => assumption); (case q9m => k_extra "mem")) | ((with_reducible refine' r_pop ?q9G ?q9U ?q9z ?_); (case q9G => assumption); (case q9U => k_extra "putf"); (case q9z => k_extra "size"); intro _ _ _) | ((with_reducible refine' r_itemT ?q9G ?q9m ?q9a ?q9b ?q9c ?q9d ?q9e ?_); (case q9G => assumption); (case q9m => k_extra "mem"); (case q9a | q9b => decide); (case q9c | q9d => exact rfl); (case q9e => with_unfolding_all rfl)))))
    refine cal (by assumption) (sp_codes (by k_extra "size")) ?_
    rintro v' nw h' t' ⟨D, xs, nx, rfl, rfl, hxs⟩ G
    have hxl : xs.length ≤ 100 := by rw [hxs.length]; simpa [codesOf] using hx
    have hvl : vs.length ≤ 1000000 := by rw [hvs.length]; exact hcs
    (repeat' ((first | k_extra "w" | k_extra "while" | with_reducible refine r_wnext ?_ | with_reducible refine' r_cwB0 ?_ | ((with_reducible refine' r_lmeth ?q9G ?q9m PySem.F.slot_list_pop PySem.F.type_list_pop ?_); (case q9G => assumption); (case q9m => k_extra "mem")) | ((with_reducible refine' r_pop ?q9G ?q9U ?q9z ?_); (case q9G => assumption); (case q9U => k_extra "putf"); (case q9z => k_extra "size"); intro _ _ _) | ((with_reducible refine' r_itemT ?q9G ?q9m ?q9a ?q9b ?q9c ?q9d ?q9e ?_); (case q9G => assumption); (case q9m => k_extra "mem"); (case q9a | q9b => decide); (case q9c | q9d => exact rfl); (case q9e => with_unfolding_all rfl)))))
    refine' LoopP.go K ?G (ints_app hvs hxs) ?hm
    case G => exact Lg.sel (by assumption) (by k_extra "sel")
    case hm => exact hm
  case left =>
    rintro cs js ar rest q u a hq hB hjs har K vs n1 n2 n3 h t m hvs hm G
    have hlen : 0 < (js ++ [Value.ref q]).length := by simp
    refine r_wturn ?_
    (repeat' ((first | k_extra "w" | k_extra "while" | with_reducible refine r_wnext ?_ | with_reducible refine' r_cwB0 ?_ | ((with_reducible refine' r_lmeth ?q9G ?q9m PySem.F.slot_list_pop PySem.F.type_list_pop ?_); (case q9G => assumption); (case q9m => k_extra "mem")) | ((with_reducible refine' r_pop ?q9G ?q9U ?q9z ?_); (case q9G => assumption); (case q9U => k_extra "putf"); (case q9z => k_extra "size"); intro _ _ _) | ((with_reducible refine' r_itemT ?q9G ?q9m ?q9a ?q9b ?q9c ?q9d ?q9e ?_); (case q9G => assumption); (case q9m => k_extra "mem"); (case q9a | q9b => decide); (case q9c | q9d => exact rfl); (case q9e => with_unfolding_all rfl)))))
    refine' LoopP.go K ?G hvs ?hm
    case G => assumption
    case hm => exact hm
  case fin =>
    rintro rest' hsub vs n1 n2 n3 h t m hvs hm G
    have hp' := hp.mono hsub
    refine r_wturn ?_
    (repeat' ((first | k_extra "w" | k_extra "while" | with_reducible refine r_wnext ?_ | with_reducible refine' r_cwB0 ?_ | ((with_reducible refine' r_lmeth ?q9G ?q9m PySem.F.slot_list_pop PySem.F.type_list_pop ?_); (case q9G => assumption); (case q9m => k_extra "mem")) | ((with_reducible refine' r_pop ?q9G ?q9U ?q9z ?_); (case q9G => assumption); (case q9U => k_extra "putf"); (case q9z => k_extra "size"); intro _ _ _) | ((with_reducible refine' r_itemT ?q9G ?q9m ?q9a ?q9b ?q9c ?q9d ?q9e ?_); (case q9G => assumption); (case q9m => k_extra "mem"); (case q9a | q9b => decide); (case q9c | q9d => exact rfl); (case q9e => with_unfolding_all rfl)))))
    refine hQ _ _ <| r_back (Lg.sub (news' := (cA, listOf vs.toArray n1) :: rest) G (fun p hp => ?_) ?_) ⟨rfl, vs, n1, rfl, hvs⟩
    · rcases List.mem_cons.mp hp with rfl | hp
      · exact .head _
      · exact .tail _ (.tail _ (.tail _ (hsub p hp)))
    · simp only [List.map_cons, List.nodup_cons, List.mem_cons, not_or] at nd0 ⊢
      exact ⟨nd0.1.2.2, nd0.2.2.2⟩
end
section
/-- the printer, its lists, its options -/
structure Ct where
  pA : Addr
  cA : Addr
  jA : Addr
  rA : Addr
  oA : Addr
  ob : Value
  lb : Value
  k1 : Nat → Int
  k2 : Nat → Int
  t1 : Nat → Tok
  t2 : Nat → Tok
  len : Int
  lev : Int
  lu : Tok
  lt : Tok
  qb : Bool
noncomputable abbrev Ct.B (c : Ct) (w : World) (r : List (Addr × Obj)) : Prop := InsIn (fr.heap_1 w.params) r c.pA 429 (prE c.k1 c.t1 c.oA c.ob c.lb c.cA c.jA c.rA)
noncomputable abbrev Ct.O (c : Ct) (w : World) (r : List (Addr × Obj)) : Prop := InsIn (fr.heap_1 w.params) r c.oA 312 (opE c.k2 c.t2 (.int c.len c.lu) (.int c.lev c.lt) (.bool c.qb))
noncomputable abbrev Ct.T (c : Ct) (w : World) (p : Program) (loose : List Str) (mean : ExcName → Option Value) (mg mb : Str → Option Value) (LP : LPT) : Prop := Turns w p loose mean mg mb c.pA c.cA c.jA c.rA (c.B w) LP
/-- no wider than seven -/
noncomputable def Ok : (n : Nat) → Dt n → Prop
  | 0, _ => True
  | _ + 1, .at _ => True
  | n + 1, .lst ds _ => ds.length ≤ 7 ∧ ∀ d ∈ ds, Ok n d
  | n + 1, .vec ds => ds.length ≤ 7 ∧ ∀ d ∈ ds, Ok n d
/-- the things around stand above the bound -/
noncomputable def Up (w : World) (rest : List (Addr × Obj)) (b : Addr) (ar : List Value) : Prop := ∀ v ∈ ar, ∃ y C es, v = .ref y ∧ InsIn (fr.heap_1 w.params) rest y C es ∧ b ≤ y
theorem Up.mono {w : World} {rest rest' : List (Addr × Obj)} {b : Addr} {ar : List Value} (h : Up w rest b ar) (s : ∀ p ∈ rest, p ∈ rest') : Up w rest' b ar := fun v hv => by
  obtain ⟨y, C, es, a, i, c⟩ := h v hv
  exact ⟨y, C, es, a, i.mono s, c⟩
theorem Up.far {w : World} {rest : List (Addr × Obj)} {b x : Addr} {ar : List Value} (h : Up w rest b ar) (hx : x < b) : Far (fr.heap_1 w.params) rest x ar := fun v hv => by
  obtain ⟨y, C, es, a, i, c⟩ := h v hv
  exact ⟨y, C, es, a, i, by intro e; rw [e] at c; exact absurd (Nat.lt_of_lt_of_le hx c) (Nat.lt_irrefl _)⟩
theorem Up.push {w : World} {rest : List (Addr × Obj)} {b x C : Addr} {es : List DictEntry} {ar : List Value} (h : Up w rest b ar) (hx : x < b) (I : InsIn (fr.heap_1 w.params) rest x C es) : Up w rest x (ar ++ [.ref x]) := fun v hv => by
  rcases List.mem_append.mp hv with hv | hv
  · obtain ⟨y, C, es, a, i, c⟩ := h v hv
    exact ⟨y, C, es, a, i, Nat.le_trans (Nat.le_of_lt hx) c⟩
  · rw [List.mem_singleton] at hv
    exact ⟨x, C, es, hv, I, Nat.le_refl _⟩
variable {w : World} {p : Program} {loose : List Str} {mean : ExcName → Option Value} {mg mb : Str → Option Value} {rest : List (Addr × Obj)} {c : Ct} {LP : LPT} {cs : List Int} {js ar : List Value} {q : Addr} {u : Tok}
theorem sy_esc (s : Sy) : ∀ c ∈ codesOf s.name, spec.any (· == c) = true ∨ (spec.any (· == c) = false ∧ 32 < c ∧ c ≠ 160 ∧ c ≠ 63) := by
  cases s <;> decide +kernel
theorem sy_ne (s : Sy) : codesOf s.name ≠ [] := by cases s <;> decide +kernel
theorem sy_codes (s : Sy) : (codesOf s.name).flatMap esc = s.codes := by cases s <;> decide +kernel
theorem run_int {n : Int} {un : Tok} {res : List Int} (T : c.T w p loose mean mg mb LP) (hB : c.B w rest) (hn : n.natAbs < 10) (hr : codesOf (Str.ofString (toString n)) = res) (hz : res.length ≤ 10) (hq : (q, tupOf [.int 0 u, .int n un]) ∈ rest) (hj : js.length ≤ 900) (hcs : cs.length ≤ 1000000)
    (k : LP (cs ++ res) js ar rest) : LP cs (js ++ [.ref q]) ar rest := by
  refine T.datum _ _ _ _ _ _ _ hq hB hj fun vs n1 n2 n3 hvs => ?_
  refine (sp_datum_int hn (by rw [hr]; exact hz) hB (by rw [hvs.length]; exact hcs)).mono fun r nw h => ?_
  obtain ⟨h1, vs', n1', e, h2⟩ := h
  rw [hr] at h2
  exact ⟨h1, vs ++ vs', js, ar, n1', n2, n3, rest, cs ++ res, e, ints_app hvs h2, k⟩
theorem run_atom (T : c.T w p loose mean mg mb LP) (a : At) {v : Value} (R : RelAt (fr.heap_1 w.params) rest v a) (hB : c.B w rest) (hO : c.O w rest) (hob : handedIn c.ob = true) (hq : (q, tupOf [.int 0 u, v]) ∈ rest) (hj : js.length ≤ 900) (hcs : cs.length ≤ 1000000)
    (k : LP (cs ++ a.codes) js ar rest) : LP cs (js ++ [.ref q]) ar rest := by
  cases a with
  | five =>
    obtain ⟨u5, rfl⟩ := R
    exact run_int T hB (by decide) (by decide +kernel) (by decide) hq hj hcs k
  | three =>
    obtain ⟨u5, rfl⟩ := R
    exact run_int T hB (by decide) (by decide +kernel) (by decide) hq hj hcs k
  | sym s =>
    obtain ⟨x, k3, t3, num, rfl, I⟩ := R
    refine T.datum _ _ _ _ _ _ _ hq hB hj fun vs n1 n2 n3 hvs => ?_
    refine (sp_datum_sym I (sy_wd s) (sy_esc s) (sy_ne s) hB hO (by rw [hvs.length]; exact hcs) hob).mono fun r nw h => ?_
    obtain ⟨h1, vs', n1', e, h2⟩ := h
    rw [sy_codes] at h2
    exact ⟨h1, vs ++ vs', js, ar, n1', n2, n3, rest, cs ++ s.codes, e, ints_app hvs h2, k⟩
end
section
variable {w : World} {p : Program} {loose : List Str} {mean : ExcName → Option Value} {mg mb : Str → Option Value} {c : Ct} {LP : LPT} {n : Nat}
/-- a datum of this depth is printed -/
noncomputable def RunAt (w : World) (c : Ct) (LP : LPT) (n : Nat) : Prop := ∀ (d : Dt n) (b : Addr) (v : Value) (rest : List (Addr × Obj)) (cs : List Int) (js ar : List Value) (q : Addr) (u : Tok), Rel (fr.heap_1 w.params) rest n b v d → Ok n d → Up w rest b ar → c.B w rest → c.O w rest →
  (q, tupOf [.int 0 u, v]) ∈ rest → js.length + 3 * (n + 1) ≤ 900 → ar.length + n + 1 ≤ 900 → cs.length + (txt c.len c.lev c.qb n d ar.length).length ≤ 1000000 →
  (∀ rest', (∀ p ∈ rest, p ∈ rest') → LP (cs ++ txt c.len c.lev c.qb n d ar.length) js ar rest') → LP cs (js ++ [.ref q]) ar rest
noncomputable def atv (ys : List Addr) (tv : Value) (i : Nat) : Value := match ys[i]? with | some z => .ref z | none => tv
/-- the cells of a row -/
structure Cells (K : Frag) (news : List (Addr × Obj)) (ys : List Addr) (vs : List Value) (tv : Value) (dot : Bool) : Prop where
  pw : ys.Pairwise (· > ·)
  len : vs.length = ys.length
  tail : if dot then ∃ u, tv = .int 7 u else tv = .ref 77
  cell : ∀ (i : Nat) (y : Addr), ys[i]? = some y → ∃ w k t dx j, vs[i]? = some w ∧ (y, instObj 98 dx) ∈ news ∧ (dx, dictOf (coE k t w (atv ys tv (i + 1))) j) ∈ news
theorem Cells.mono {K : Frag} {news news' : List (Addr × Obj)} {ys : List Addr} {vs : List Value} {tv : Value} {dot : Bool} (C : Cells K news ys vs tv dot) (s : ∀ p ∈ news, p ∈ news') : Cells K news' ys vs tv dot :=
  ⟨C.pw, C.len, C.tail, fun i y hy => by
    obtain ⟨w, k, t, dx, j, a, b, c⟩ := C.cell i y hy
    exact ⟨w, k, t, dx, j, a, s _ b, s _ c⟩⟩
theorem atv_handed {ys : List Addr} {tv : Value} {dot : Bool} (h : if dot then ∃ u, tv = .int 7 u else tv = .ref 77) (i : Nat) : handedIn (atv ys tv i) = true := by
  unfold atv
  cases ys[i]? with
  | some z => rfl
  | none =>
    cases dot with
    | true => obtain ⟨u, rfl⟩ := h; rfl
    | false => cases (show tv = .ref 77 from h); rfl
theorem cells_ne {ys : List Addr} (pw : ys.Pairwise (· > ·)) {i j : Nat} {x y : Addr} (hx : ys[i]? = some x) (hy : ys[j]? = some y) (h : j < i) : x ≠ y := by
  obtain ⟨h1, rfl⟩ := List.getElem?_eq_some_iff.mp hx
  obtain ⟨h2, rfl⟩ := List.getElem?_eq_some_iff.mp hy
  have := List.pairwise_iff_getElem.mp pw j i h2 h1 h
  intro e
  rw [e] at this
  exact Nat.lt_irrefl _ this
theorem memsub {l : List (Addr × Obj)} {a b : Addr × Obj} : ∀ p ∈ l, p ∈ a :: b :: l := fun _ h => .tail _ (.tail _ h)
theorem run_row (T : c.T w p loose mean mg mb LP) (RA : RunAt w c LP n) {ys : List Addr} {vs : List Value} {tv : Value} {dot : Bool} {ds : List (Dt n)} {b : Addr} {js ar : List Value} (hl : ds.length = ys.length) (h7 : ds.length ≤ 7) (okd : ∀ d ∈ ds, Ok n d)
    (hj : js.length + 3 * (n + 1) + 2 ≤ 900) (har : ar.length + n + 1 ≤ 900) :
    ∀ (k i : Nat) (rest : List (Addr × Obj)) (cs : List Int) (q : Addr) (u u2 : Tok) (y : Addr), i + k = ds.length → Cells (fr.heap_1 w.params) rest ys vs tv dot → (∀ (i : Nat) (w' : Value) (d : Dt n), vs[i]? = some w' → ds[i]? = some d → Rel (fr.heap_1 w.params) rest n b w' d) →
      Up w rest b ar → c.B w rest → c.O w rest → ys[i / 2]? = some y → (q, tupOf [.int 2 u, atv ys tv i, .int (i : Int) u2, .ref y]) ∈ rest →
      cs.length + (rowT (fun d => txt c.len c.lev c.qb n d ar.length) c.len dot i (ds.drop i)).length ≤ 1000000 →
      (∀ rest', (∀ p ∈ rest, p ∈ rest') → LP (cs ++ rowT (fun d => txt c.len c.lev c.qb n d ar.length) c.len dot i (ds.drop i)) js ar rest') → LP cs (js ++ [.ref q]) ar rest := by
  have hj0 : js.length ≤ 895 := by omega
  intro k
  induction k with
  | zero =>
    intro i rest cs q u u2 y hi C it hu hB hO hy hq hcs kk
    have hcs0 : cs.length ≤ 1000000 := Nat.le_trans (Nat.le_add_right _ _) hcs
    have e0 : ds.drop i = [] := List.drop_eq_nil_of_le (by k_extra "le")
    rw [e0] at hcs kk
    have e1 : atv ys tv i = tv := by unfold atv; rw [List.getElem?_eq_none (by k_extra "le")]
    rw [e1] at hq
    have ht := C.tail
    cases dot with
    | true =>
      obtain ⟨un, rfl⟩ := ht
      simp only [rowT, if_true] at hcs kk
      simp only [List.length_cons, List.length_nil] at hcs
      refine T.row _ _ _ _ _ _ _ _ _ _ hq hB (by k_extra "le") fun vs n1 n2 n3 hvs => ?_
      have hvl : vs.length ≤ 1000000 := by rw [hvs.length]; exact hcs0
      refine (sp_row_dot hB (by k_extra "le") (by k_extra "le")).mono fun r nw h => ?_
      obtain ⟨h1, vs', n1', n2', q1, q2, u3, u4, u5, e, h2⟩ := h
      refine ⟨h1, vs ++ vs', _, ar, n1', n2', n3, _, cs ++ [32, 46, 32], e, ints_app hvs h2, ?_⟩
      refine run_int (res := [55]) T (hB.mono memsub) (by decide) (by decide +kernel) (by decide) (.head _) (by simp; omega) (by simp; omega) ?_
      refine T.signs _ _ _ _ _ _ _ _ (.tail _ (.head _)) (hB.mono memsub) (by k_extra "le") (by simp; omega) (by decide +kernel) ?_
      have e9 : cs ++ [32, 46, 32] ++ [55] ++ codesOf (Str.ofString ")") = cs ++ [32, 46, 32, 55, 41] := by
        rw [show codesOf (Str.ofString ")") = [41] by decide +kernel]; simp
      rw [e9]
      exact kk _ memsub
    | false =>
      cases (show tv = .ref 77 from ht)
      simp only [rowT] at hcs kk
      refine T.row _ _ _ _ _ _ _ _ _ _ hq hB (by k_extra "le") fun vs n1 n2 n3 hvs => ?_
      have hvl : vs.length ≤ 1000000 := by rw [hvs.length]; exact hcs0
      refine (sp_row_nil hB (by k_extra "le")).mono fun r nw h => ?_
      obtain ⟨h1, vs', n1', e, h2⟩ := h
      exact ⟨h1, vs ++ vs', _, ar, n1', n2, n3, _, cs ++ [41], e, ints_app hvs h2, kk _ fun _ h => h⟩
  | succ k ih =>
    intro i rest cs q u u2 y hi C it hu hB hO hy hq hcs kk
    have hcs0 : cs.length ≤ 1000000 := Nat.le_trans (Nat.le_add_right _ _) hcs
    have hil : i < ds.length := by omega
    have ed : ds.drop i = ds[i] :: ds.drop (i + 1) := List.drop_eq_getElem_cons hil
    rw [ed] at hcs kk
    have hyi : ys[i]? = some ys[i] := List.getElem?_eq_getElem (by k_extra "le")
    have e1 : atv ys tv i = .ref ys[i] := by unfold atv; rw [hyi]
    rw [e1] at hq
    obtain ⟨w1, k1, t1, dx1, j1, a1, b1, c1⟩ := C.cell i _ hyi
    obtain ⟨w2, k2, t2, dx2, j2, a2, b2, c2⟩ := C.cell (i / 2) y hy
    have R1 := it i w1 ds[i] a1 (List.getElem?_eq_getElem hil)
    obtain ⟨y2, hy2⟩ : ∃ y2, ys[(i + 1) / 2]? = some y2 := ⟨_, List.getElem?_eq_getElem (by k_extra "le")⟩
    refine T.row _ _ _ _ _ _ _ _ _ _ hq hB (by k_extra "le") fun vs9 n1 n2 n3 hvs => ?_
    have hvl : vs9.length ≤ 1000000 := by rw [hvs.length]; exact hcs0
    refine (sp_row_next (hv := .ref y2) hB hO (InsIn.news b1 c1) (InsIn.news b2 c2) (fun h0 => cells_ne C.pw hyi hy (by k_extra "le")) (Rel.handed n b w1 _ R1) (atv_handed C.tail _) (atv_handed C.tail _) (by k_extra "le") (by k_extra "le") (by k_extra "le") ?_).mono fun r nw h => ?_
    · rcases Nat.mod_two_eq_zero_or_one i with ev | ev
      · refine .inr ⟨ev, ?_⟩
        have e2 : (i + 1) / 2 = i / 2 := by omega
        rw [e2, hy] at hy2
        cases hy2; rfl
      · refine .inl ⟨ev, ?_⟩
        have e2 : (i + 1) / 2 = i / 2 + 1 := by omega
        rw [e2] at hy2
        unfold atv; rw [hy2]
    obtain ⟨h1, h | h⟩ := h
    · obtain ⟨hc, vs', n1', e, h2⟩ := h
      refine ⟨h1, vs9 ++ vs', _, ar, n1', n2, n3, _, _, e, ints_app hvs h2, ?_⟩
      simp only [rowT, if_pos hc] at kk
      exact kk _ fun _ h => h
    · obtain ⟨hc, vs', n1', n2', q1, q2, u3, u4, u5, e, h2⟩ := h
      refine ⟨h1, vs9 ++ vs', _, ar, n1', n2', n3, _, _, e, ints_app hvs h2, ?_⟩
      simp only [rowT, if_neg hc] at kk hcs
      simp only [List.length_append] at hcs
      refine RA ds[i] b w1 _ _ _ ar q2 u3 (R1.mono memsub) (okd _ (List.getElem_mem hil)) (hu.mono memsub) (hB.mono memsub) (hO.mono memsub) (.head _) (by simp; omega) har (by simp only [List.length_append]; omega) fun rest' hs => ?_
      have hs' : ∀ p ∈ rest, p ∈ rest' := fun p hp => hs p (memsub p hp)
      refine ih (i + 1) rest' _ q1 u4 u5 y2 (by k_extra "le") (C.mono hs') (fun i w' d hw hd => (it i w' d hw hd).mono hs') (hu.mono hs') (hB.mono hs') (hO.mono hs') hy2 (hs _ (.tail _ (.head _))) (by simp only [List.length_append]; omega) fun rest'' hs2 => ?_
      have := kk rest'' fun p hp => hs2 p (hs' p hp)
      simpa only [List.append_assoc] using this
end
section
variable {w : World} {p : Program} {loose : List Str} {mean : ExcName → Option Value} {mg mb : Str → Option Value} {c : Ct} {LP : LPT} {n : Nat}
theorem run_cells (T : c.T w p loose mean mg mb LP) (RA : RunAt w c LP n) {l : Addr} {vs : List Value} {ln : Nat} {ds : List (Dt n)} {b : Addr} {js ar : List Value} (hl : ds.length = vs.length) (h7 : ds.length ≤ 7) (okd : ∀ d ∈ ds, Ok n d)
    (hj : js.length + 3 * (n + 1) + 2 ≤ 900) (har : ar.length + n + 1 ≤ 900) :
    ∀ (k i : Nat) (rest : List (Addr × Obj)) (cs : List Int) (q : Addr) (u u2 : Tok), i + k = ds.length → (l, listOf vs.toArray ln) ∈ rest → (∀ (i : Nat) (w' : Value) (d : Dt n), vs[i]? = some w' → ds[i]? = some d → Rel (fr.heap_1 w.params) rest n b w' d) →
      Up w rest b ar → c.B w rest → c.O w rest → (q, tupOf [.int 3 u, .ref l, .int (i : Int) u2]) ∈ rest →
      cs.length + (cellT (fun d => txt c.len c.lev c.qb n d ar.length) c.len i (ds.drop i)).length ≤ 1000000 →
      (∀ rest', (∀ p ∈ rest, p ∈ rest') → LP (cs ++ cellT (fun d => txt c.len c.lev c.qb n d ar.length) c.len i (ds.drop i)) js ar rest') → LP cs (js ++ [.ref q]) ar rest := by
  have hj0 : js.length ≤ 895 := by omega
  have h77 : vs.length ≤ 7 := hl ▸ h7
  intro k
  induction k with
  | zero =>
    intro i rest cs q u u2 hi C it hu hB hO hq hcs kk
    have hcs0 : cs.length ≤ 1000000 := Nat.le_trans (Nat.le_add_right _ _) hcs
    have e0 : ds.drop i = [] := List.drop_eq_nil_of_le (by k_extra "le")
    rw [e0] at hcs kk
    have e1 : i = vs.length := by omega
    subst e1
    simp only [cellT] at hcs kk
    refine T.cells _ _ _ _ _ _ _ _ _ hq hB (by k_extra "le") fun vs9 n1 n2 n3 hvs => ?_
    have hvl : vs9.length ≤ 1000000 := by rw [hvs.length]; exact hcs0
    refine (sp_cells_end hB C (by k_extra "le") (by k_extra "le")).mono fun r nw h => ?_
    obtain ⟨h1, vs', n1', e, h2⟩ := h
    exact ⟨h1, vs9 ++ vs', _, ar, n1', n2, n3, _, cs ++ [93], e, ints_app hvs h2, kk _ fun _ h => h⟩
  | succ k ih =>
    intro i rest cs q u u2 hi C it hu hB hO hq hcs kk
    have hcs0 : cs.length ≤ 1000000 := Nat.le_trans (Nat.le_add_right _ _) hcs
    have hil : i < ds.length := by omega
    have ed : ds.drop i = ds[i] :: ds.drop (i + 1) := List.drop_eq_getElem_cons hil
    rw [ed] at hcs kk
    have hvi : vs[i]? = some vs[i] := List.getElem?_eq_getElem (by k_extra "le")
    have R1 := it i _ ds[i] hvi (List.getElem?_eq_getElem hil)
    refine T.cells _ _ _ _ _ _ _ _ _ hq hB (by k_extra "le") fun vs9 n1 n2 n3 hvs => ?_
    have hvl : vs9.length ≤ 1000000 := by rw [hvs.length]; exact hcs0
    refine (sp_cells_next hB hO C (by k_extra "le") hvi (by k_extra "le") (by k_extra "le")).mono fun r nw h => ?_
    obtain ⟨h1, h | h⟩ := h
    · obtain ⟨hc, vs', n1', e, h2⟩ := h
      refine ⟨h1, vs9 ++ vs', _, ar, n1', n2, n3, _, _, e, ints_app hvs h2, ?_⟩
      simp only [cellT, if_pos hc] at kk
      exact kk _ fun _ h => h
    · obtain ⟨hc, vs', n1', n2', q1, q2, u3, u4, u5, e, h2⟩ := h
      refine ⟨h1, vs9 ++ vs', _, ar, n1', n2', n3, _, _, e, ints_app hvs h2, ?_⟩
      simp only [cellT, if_neg hc] at kk hcs
      simp only [List.length_append] at hcs
      refine RA ds[i] b _ _ _ _ ar q2 u3 (R1.mono memsub) (okd _ (List.getElem_mem hil)) (hu.mono memsub) (hB.mono memsub) (hO.mono memsub) (.head _) (by simp; omega) har (by simp only [List.length_append]; omega) fun rest' hs => ?_
      have hs' : ∀ p ∈ rest, p ∈ rest' := fun p hp => hs p (memsub p hp)
      refine ih (i + 1) rest' _ q1 u4 u5 (by k_extra "le") (hs' _ C) (fun i w' d hw hd => (it i w' d hw hd).mono hs') (hu.mono hs') (hB.mono hs') (hO.mono hs') (hs _ (.tail _ (.head _))) (by simp only [List.length_append]; omega) fun rest'' hs2 => ?_
      have := kk rest'' fun p hp => hs2 p (hs' p hp)
      simpa only [List.append_assoc] using this
/-- the words that stand for a quote -/
def quoteW (n : Nat) (ds : List (Dt n)) (dot : Bool) : Str := match dot, ds with
  | false, [q, _] => (match symOf n q with
    | some s => s.words
    | none => Str.ofString "")
  | _, _ => Str.ofString ""
theorem words_codes (s : Sy) : codesOf s.words = s.mark := by cases s <;> decide +kernel
theorem words_len (s : Sy) : s.words.cps.size ≤ 10 := by cases s <;> decide +kernel
theorem words_ne (s : Sy) : (s.words != Str.ofString "") = true ↔ s.mark ≠ [] := by cases s <;> decide +kernel
theorem quoteW_len (n : Nat) (ds : List (Dt n)) (dot : Bool) : (quoteW n ds dot).cps.size ≤ 10 := by
  unfold quoteW
  split
  · split
    · exact words_len _
    · decide +kernel
  · decide +kernel
/-- what a datum's value is, to isinstance -/
theorem rel_isV (n : Nat) (b : Addr) (v : Value) (d : Dt n) {rest : List (Addr × Obj)} (R : Rel (fr.heap_1 w.params) rest n b v d) : (∃ s x k t num, symOf n d = some s ∧ v = .ref x ∧ InsIn (fr.heap_1 w.params) rest x 71 (syE k t num s.name)) ∨ (symOf n d = none ∧ IsV (fr.heap_1 w.params) rest v (.ref 71) false) := by
  have atc : ∀ a : At, RelAt (fr.heap_1 w.params) rest v a → (∃ s x k t num, (match a with | .sym s => some s | _ => none) = some s ∧ v = .ref x ∧ InsIn (fr.heap_1 w.params) rest x 71 (syE k t num s.name)) ∨ ((match a with | .sym s => some s | _ => none) = none ∧ IsV (fr.heap_1 w.params) rest v (.ref 71) false) := by
    intro a R
    cases a with
    | five => obtain ⟨u, e⟩ := R; exact .inr ⟨rfl, .int 5 u e ki71⟩
    | three => obtain ⟨u, e⟩ := R; exact .inr ⟨rfl, .int (-3) u e ki71⟩
    | sym s => obtain ⟨x, k, t, num, e, I⟩ := R; exact .inl ⟨s, x, k, t, num, rfl, e, I⟩
  cases n with
  | zero =>
    have := atc d R
    cases d with
    | five => simpa [symOf] using this
    | three => simpa [symOf] using this
    | sym s => simpa [symOf] using this
  | succ n =>
    cases d with
    | «at» a =>
      have := atc a R
      cases a with
      | five => simpa [symOf] using this
      | three => simpa [symOf] using this
      | sym s => simpa [symOf] using this
    | lst ds dot =>
      obtain ⟨x, xs, vs, tv, e, _, _, h4, _, _, h7, _⟩ := R
      obtain ⟨w', k, t, dx, j, a, b, c⟩ := h7 0 x rfl
      exact .inr ⟨rfl, .obj x 98 _ e (.news b c) iok_cons k98s⟩
    | vec ds =>
      obtain ⟨x, l, dx, vs, k, t, i, j, e, _, a, b, _⟩ := R
      exact .inr ⟨rfl, .obj x 141 _ e (.news a b) iok_vec k141s⟩
end
section
variable {w : World} {p : Program} {loose : List Str} {mean : ExcName → Option Value} {mg mb : Str → Option Value} {c : Ct} {LP : LPT} {n : Nat} {rest : List (Addr × Obj)}
theorem atv_some {ys : List Addr} {tv : Value} {i : Nat} {y : Addr} (h : ys[i]? = some y) : atv ys tv i = .ref y := by unfold atv; rw [h]
theorem atv_none {ys : List Addr} {tv : Value} {i : Nat} (h : ys.length ≤ i) : atv ys tv i = tv := by unfold atv; rw [List.getElem?_eq_none h]
theorem quoteW_three {d1 d2 d3 : Dt n} {r : List (Dt n)} {dot : Bool} : quoteW n (d1 :: d2 :: d3 :: r) dot = Str.ofString "" := by cases dot <;> rfl
theorem quoteW_one {d1 : Dt n} {dot : Bool} : quoteW n [d1] dot = Str.ofString "" := by cases dot <;> rfl
theorem quoteW_none {d1 : Dt n} {r : List (Dt n)} {dot : Bool} (h : symOf n d1 = none) : quoteW n (d1 :: r) dot = Str.ofString "" := by
  match r, dot with
  | [], false => rfl
  | [], true => rfl
  | [d2], false => show (match symOf n d1 with | some s => s.words | none => Str.ofString "") = _; rw [h]
  | [_], true => rfl
  | _ :: _ :: _, false => rfl
  | _ :: _ :: _, true => rfl
theorem quoteW_two {d1 d2 : Dt n} {s : Sy} (h : symOf n d1 = some s) : quoteW n [d1, d2] false = s.words := by
  show (match symOf n d1 with | some s => s.words | none => Str.ofString "") = _; rw [h]
/-- the sign of a quote, as the code finds it -/
theorem sq_all {ys : List Addr} {vs : List Value} {tv : Value} {dot : Bool} {ds : List (Dt n)} {b x : Addr} (C : Cells (fr.heap_1 w.params) rest ys vs tv dot) (hl : ds.length = ys.length) (h0 : ys[0]? = some x)
    (it : ∀ (i : Nat) (w' : Value) (d : Dt n), vs[i]? = some w' → ds[i]? = some d → Rel (fr.heap_1 w.params) rest n b w' d) :
    SP w p loose mean mg mb (.ref 356) [.ref x] 14 28 rest (fun r nw => ∃ u, r = .str (quoteW n ds dot) u ∧ nw = rest) := by
  obtain ⟨w0, k0, t0, dx0, j0, a0, b0, c0⟩ := C.cell 0 x h0
  match ds, hl, it with
  | [], hl, it =>
    have : ys.length = 0 := hl.symm
    rw [List.getElem?_eq_none (by k_extra "le")] at h0; cases h0
  | d1 :: r, hl, it =>
    have R1 := it 0 w0 d1 a0 rfl
    have hd0 := Rel.handed n b w0 d1 R1
    rcases rel_isV n b w0 d1 R1 with ⟨s, sx, k, t, num, hs, rfl, S⟩ | ⟨hs, H⟩
    · have H : IsV (fr.heap_1 w.params) rest (.ref sx) (.ref 71) true := .obj sx 71 _ rfl S iok_sym k71s
      match r, hl, it with
      | [], hl, it =>
        have hy : ys.length = 1 := hl.symm
        rw [atv_none (by k_extra "le")] at c0
        rw [quoteW_one]
        refine sq_b (.news b0 c0) rfl ?_ H ?_
        · have := atv_handed (ys := ys) C.tail 1
          rwa [atv_none (by k_extra "le")] at this
        · have ht := C.tail
          cases dot with
          | true => obtain ⟨u, rfl⟩ := ht; exact .int 7 u rfl ki98
          | false =>
            cases (show tv = .ref 77 from ht)
            obtain ⟨k9, t9, N⟩ := nil_in (w := w) (news := rest)
            exact .obj 77 71 _ rfl N iok_sym k71c
      | [d2], hl, it =>
        have hy : ys.length = 2 := hl.symm
        have h1 : ys[1]? = some ys[1] := List.getElem?_eq_getElem (by k_extra "le")
        rw [atv_some h1] at c0
        obtain ⟨w1, k1, t1, dx1, j1, a1, b1, c1⟩ := C.cell 1 _ h1
        have R2 := it 1 w1 d2 a1 rfl
        have hd1 := Rel.handed n b w1 d2 R2
        rw [atv_none (by k_extra "le")] at c1
        have ht := C.tail
        cases dot with
        | true =>
          obtain ⟨u, rfl⟩ := ht
          exact sq_c (.news b0 c0) (.news b1 c1) rfl rfl H (.inl ⟨u, rfl⟩)
        | false =>
          cases (show tv = .ref 77 from ht)
          rw [quoteW_two hs]
          exact sq_d (.news b0 c0) (.news b1 c1) S hd1
      | d2 :: d3 :: r, hl, it =>
        have hy : ys.length = r.length + 3 := by rw [← hl]; rfl
        have h1 : ys[1]? = some ys[1] := List.getElem?_eq_getElem (by k_extra "le")
        have h2 : ys[2]? = some ys[2] := List.getElem?_eq_getElem (by k_extra "le")
        rw [atv_some h1] at c0
        obtain ⟨w1, k1, t1, dx1, j1, a1, b1, c1⟩ := C.cell 1 _ h1
        obtain ⟨w2, k2, t2, dx2, j2, a2, b2, c2⟩ := C.cell 2 _ h2
        rw [atv_some h2] at c1
        rw [quoteW_three]
        exact sq_c (.news b0 c0) (.news b1 c1) rfl rfl H (.inr ⟨_, _, rfl, .news b2 c2⟩)
    · rw [quoteW_none hs]
      exact sq_a (.news b0 c0) hd0 (atv_handed C.tail 1) H
theorem quoteW_inv {ds : List (Dt n)} {dot : Bool} (h : (quoteW n ds dot != Str.ofString "") = true) : ∃ d1 d2 s, ds = [d1, d2] ∧ dot = false ∧ symOf n d1 = some s ∧ quoteW n ds dot = s.words ∧ s.mark ≠ [] := by
  have no : ¬ ((Str.ofString "" != Str.ofString "") = true) := by decide +kernel
  match ds, dot, h with
  | [], false, h => exact absurd h no
  | [], true, h => exact absurd h no
  | [_], false, h => exact absurd h no
  | [_], true, h => exact absurd h no
  | [d1, d2], true, h => exact absurd h no
  | _ :: _ :: _ :: _, false, h => exact absurd h no
  | _ :: _ :: _ :: _, true, h => exact absurd h no
  | [d1, d2], false, h =>
    cases hs : symOf n d1 with
    | none => rw [quoteW_none hs] at h; exact absurd h no
    | some s =>
      rw [quoteW_two hs] at h ⊢
      exact ⟨d1, d2, s, rfl, rfl, hs, rfl, (words_ne s).mp h⟩
theorem quoteW_no {ds : List (Dt n)} {dot : Bool} (h : ¬ ((quoteW n ds dot != Str.ofString "") = true)) : ¬ (dot = false ∧ quoteOf n ds ≠ []) := by
  rintro ⟨rfl, hq⟩
  match ds, h, hq with
  | [], h, hq => exact hq rfl
  | [_], h, hq => exact hq rfl
  | _ :: _ :: _ :: _, h, hq => exact hq rfl
  | [d1, d2], h, hq =>
    have e : quoteOf n [d1, d2] = markOf n d1 := rfl
    rw [e] at hq
    unfold markOf at hq
    cases hs : symOf n d1 with
    | none => rw [hs] at hq; exact hq rfl
    | some s =>
      rw [hs] at hq
      rw [quoteW_two hs] at h
      exact h ((words_ne s).mpr hq)
theorem txt_lst (len lev : Int) (sh : Bool) (ds : List (Dt n)) (dot : Bool) (dep : Int) : txt len lev sh (n + 1) (.lst ds dot) dep = if 0 ≤ lev ∧ lev ≤ dep then [35] else
      if dot = false ∧ quoteOf n ds ≠ [] ∧ sh = true then quoteOf n ds ++ (match ds with | [_, x] => txt len lev sh n x (dep + 1) | _ => [])
      else 40 :: joinSp (partsOf (fun d => txt len lev sh n d (dep + 1)) len ds dot) ++ [41] := rfl
theorem txt_vec (len lev : Int) (sh : Bool) (ds : List (Dt n)) (dep : Int) : txt len lev sh (n + 1) (.vec ds) dep = if 0 ≤ lev ∧ lev ≤ dep then [35] else 91 :: joinSp (partsOf (fun d => txt len lev sh n d (dep + 1)) len ds false) ++ [93] := rfl
theorem run_all (T : c.T w p loose mean mg mb LP) (hob : handedIn c.ob = true) : ∀ n, RunAt w c LP n := by
  intro n
  induction n with
  | zero =>
    intro d b v rest cs js ar q u R ok hu hB hO hq hj har hcs kk
    have hcs0 : cs.length ≤ 1000000 := Nat.le_trans (Nat.le_add_right _ _) hcs
    have hj0 : js.length ≤ 890 + 10 := Nat.le_trans (Nat.le_add_right _ _) hj
    have har0 : ar.length ≤ 890 + 10 := by omega
    exact run_atom T d R hB hO hob hq (by k_extra "le") (by k_extra "le") (kk _ fun _ h => h)
  | succ n RA =>
    intro d b v rest cs js ar q u R ok hu hB hO hq hj har hcs kk
    have hcs0 : cs.length ≤ 1000000 := Nat.le_trans (Nat.le_add_right _ _) hcs
    have hj0 : js.length ≤ 890 + 10 := Nat.le_trans (Nat.le_add_right _ _) hj
    have har0 : ar.length ≤ 890 + 10 := by omega
    cases d with
    | «at» a => exact run_atom T a R hB hO hob hq (by k_extra "le") (by k_extra "le") (kk _ fun _ h => h)
    | lst ds dot =>
      obtain ⟨x, xs, vs, tv, rfl, hxb, pw, hl, hvl, htl, hcell, hit⟩ := R
      have C : Cells (fr.heap_1 w.params) rest (x :: xs) vs tv dot := ⟨pw, by rw [hvl, hl], htl, fun i y hy => hcell i y hy⟩
      obtain ⟨w0, k0, t0, dx0, j0, a0, b0, c0⟩ := C.cell 0 x rfl
      have hd : ds ≠ [] := by intro e; rw [e] at hl; cases hl
      have hpos : 0 < ds.length := List.length_pos_iff.mpr hd
      have R1 := hit 0 w0 ds[0] a0 (List.getElem?_eq_getElem hpos)
      refine T.datum _ _ _ _ _ _ _ hq hB (by k_extra "le") fun vs9 n1 n2 n3 hvs => ?_
      have hvl9 : vs9.length ≤ 1000000 := by rw [hvs.length]; exact hcs0
      refine (sp_datum_cons (.news b0 c0) hB hO (sp_whole_cons (c2 := (vs[1]?).getD .none) (q := quoteW n ds dot) (.news b0 c0) hB hO (hu.far hxb) (by k_extra "le") (by k_extra "le") (by k_extra "le") (Rel.handed n x w0 _ R1) (atv_handed C.tail _)
        (fun news' s => sq_all (C.mono s) hl.symm rfl (fun i w' d hw hd => (hit i w' d hw hd).mono s)) (quoteW_len n ds dot) (fun hne => ?_))).mono fun r nw h => ?_
      · obtain ⟨d1, d2, s, rfl, rfl, hs, _, _⟩ := quoteW_inv hne
        obtain ⟨y1, h1⟩ : ∃ y1, (x :: xs)[1]? = some y1 := ⟨_, List.getElem?_eq_getElem (show 1 < (x :: xs).length by rw [hl]; simp)⟩
        obtain ⟨w1, k1, t1, dx1, j1, a1, b1, c1⟩ := C.cell 1 _ h1
        refine ⟨_, k1, t1, atv (x :: xs) tv (1 + 1), atv_some h1, ?_, ?_⟩
        · rw [a1]; exact .news b1 c1
        · rw [a1]; exact Rel.handed n x w1 d2 (hit 1 w1 d2 a1 rfl)
      obtain ⟨h1, h⟩ := h
      refine ⟨h1, ?_⟩
      rcases h with ⟨l1, l2, vs', n1', e, h2⟩ | ⟨hc, vs', n1', n2', n3', q1, q2, o2, u3, u4, e, h⟩
      · refine ⟨vs9 ++ vs', _, ar, n1', n2, n3, _, _, e, ints_app hvs h2, ?_⟩
        have et : txt c.len c.lev c.qb (n + 1) (.lst ds dot) ar.length = [35] := by rw [txt_lst, if_pos ⟨l1, l2⟩]
        rw [et] at kk
        exact kk _ fun _ h => h
      · have ear : (((ar ++ [Value.ref x]).length : Nat) : Int) = (ar.length : Int) + 1 := by simp
        have hu' : Up w ((q2, o2) :: (q1, tupOf [.int 4 u3, .none]) :: rest) x (ar ++ [.ref x]) := (hu.push hxb (.news b0 c0)).mono memsub
        rcases h with ⟨⟨hqb, hne⟩, h2, rfl⟩ | ⟨hno, h2, u5, rfl⟩
        · obtain ⟨d1, d2, s, rfl, rfl, hs, ew, hm⟩ := quoteW_inv hne
          obtain ⟨y1, h1'⟩ : ∃ y1, (x :: xs)[1]? = some y1 := ⟨_, List.getElem?_eq_getElem (show 1 < (x :: xs).length by rw [hl]; simp)⟩
          obtain ⟨w1, k1, t1, dx1, j1, a1, b1, c1⟩ := C.cell 1 _ h1'
          rw [ew, words_codes] at h2
          have eq1 : quoteOf n [d1, d2] = s.mark := by show markOf n d1 = _; unfold markOf; rw [hs]
          have et : txt c.len c.lev c.qb (n + 1) (.lst [d1, d2] false) ar.length = s.mark ++ txt c.len c.lev c.qb n d2 (ar.length + 1) := by
            rw [txt_lst, if_neg hc, if_pos ⟨rfl, by rw [eq1]; exact hm, hqb⟩, eq1]
          rw [et] at kk hcs
          rw [List.length_append] at hcs
          refine ⟨vs9 ++ vs', _, _, n1', n2', n3', _, cs ++ s.mark, e, ints_app hvs h2, ?_⟩
          refine RA d2 x w1 _ (cs ++ s.mark) (js ++ [.ref q1]) (ar ++ [.ref x]) q2 u4 ((hit 1 w1 d2 a1 rfl).mono memsub) (ok.2 d2 (by simp)) hu' (hB.mono memsub) (hO.mono memsub) (by rw [a1]; exact .head _) (by simp; omega) (by simp; omega) (by rw [ear]; simp only [List.length_append]; omega) fun rest' hs' => ?_
          rw [ear]
          refine T.left _ _ _ _ _ u3 _ (hs' _ (.tail _ (.head _))) (hB.mono fun p hp => hs' p (memsub p hp)) (by k_extra "le") (by k_extra "le") ?_
          have := kk rest' fun p hp => hs' p (memsub p hp)
          simpa only [List.append_assoc] using this
        · have hno' : ¬ (dot = false ∧ quoteOf n ds ≠ [] ∧ c.qb = true) := by
            rintro ⟨e1, e2, e3⟩
            by_cases hne : (quoteW n ds dot != Str.ofString "") = true
            · exact hno ⟨e3, hne⟩
            · exact quoteW_no hne ⟨e1, e2⟩
          have et : txt c.len c.lev c.qb (n + 1) (.lst ds dot) ar.length = [40] ++ rowT (fun d => txt c.len c.lev c.qb n d ((ar ++ [Value.ref x]).length : Nat)) c.len dot 0 (ds.drop 0) := by
            rw [List.drop_zero, row_zero _ _ _ _ hd, ear]
            rw [txt_lst, if_neg hc, if_neg hno']
            simp
          rw [et] at kk hcs
          rw [List.length_append] at hcs
          refine ⟨vs9 ++ vs', _, _, n1', n2', n3', _, cs ++ [40], e, ints_app hvs h2, ?_⟩
          refine run_row (b := x) T RA (js := js ++ [.ref q1]) (ar := ar ++ [.ref x]) hl.symm ok.1 ok.2 (by simp; omega) (by simp; omega) ds.length 0 _ (cs ++ [40]) q2 u4 u5 x (by k_extra "le") (C.mono memsub) (fun i w' d hw hd => (hit i w' d hw hd).mono memsub) hu' (hB.mono memsub) (hO.mono memsub) rfl (.head _) (by rw [List.length_append]; omega) fun rest' hs' => ?_
          refine T.left _ _ _ _ _ u3 _ (hs' _ (.tail _ (.head _))) (hB.mono fun p hp => hs' p (memsub p hp)) (by k_extra "le") (by k_extra "le") ?_
          have := kk rest' fun p hp => hs' p (memsub p hp)
          simpa only [List.append_assoc] using this
    | vec ds =>
      obtain ⟨x, l, dx, vs, k0, t0, i0, j0, rfl, hxb, b0, c0, cl, hvl, hit⟩ := R
      refine T.datum _ _ _ _ _ _ _ hq hB (by k_extra "le") fun vs9 n1 n2 n3 hvs => ?_
      have hvl9 : vs9.length ≤ 1000000 := by rw [hvs.length]; exact hcs0
      refine (sp_datum_vec (.news b0 c0) hB hO (sp_whole_vec (.news b0 c0) hB hO (hu.far hxb) (by k_extra "le") (by k_extra "le") (by k_extra "le"))).mono fun r nw h => ?_
      obtain ⟨h1, h⟩ := h
      refine ⟨h1, ?_⟩
      rcases h with ⟨l1, l2, vs', n1', e, h2⟩ | ⟨hc, vs', n1', n2', n3', q1, q2, u3, u4, u5, e, h2⟩
      · refine ⟨vs9 ++ vs', _, ar, n1', n2, n3, _, _, e, ints_app hvs h2, ?_⟩
        have et : txt c.len c.lev c.qb (n + 1) (.vec ds) ar.length = [35] := by rw [txt_vec, if_pos ⟨l1, l2⟩]
        rw [et] at kk
        exact kk _ fun _ h => h
      · have ear : (((ar ++ [Value.ref x]).length : Nat) : Int) = (ar.length : Int) + 1 := by simp
        have hu' : Up w ((q2, tupOf [.int 3 u4, .ref l, .int 0 u5]) :: (q1, tupOf [.int 4 u3, .none]) :: rest) x (ar ++ [.ref x]) := (hu.push hxb (.news b0 c0)).mono memsub
        have et : txt c.len c.lev c.qb (n + 1) (.vec ds) ar.length = [91] ++ cellT (fun d => txt c.len c.lev c.qb n d ((ar ++ [Value.ref x]).length : Nat)) c.len 0 (ds.drop 0) := by
          rw [List.drop_zero, cell_zero, ear]
          rw [txt_vec, if_neg hc]
          simp
        rw [et] at kk hcs
        rw [List.length_append] at hcs
        refine ⟨vs9 ++ vs', _, _, n1', n2', n3', _, cs ++ [91], e, ints_app hvs h2, ?_⟩
        refine run_cells (b := x) T RA (js := js ++ [.ref q1]) (ar := ar ++ [.ref x]) hvl.symm ok.1 ok.2 (by simp; omega) (by simp; omega) ds.length 0 _ (cs ++ [91]) q2 u4 u5 (by k_extra "le") (memsub _ cl) (fun i w' d hw hd => (hit i w' d hw hd).mono memsub) hu' (hB.mono memsub) (hO.mono memsub) (.head _) (by rw [List.length_append]; omega) fun rest' hs' => ?_
        refine T.left _ _ _ _ _ u3 _ (hs' _ (.tail _ (.head _))) (hB.mono fun p hp => hs' p (memsub p hp)) (by k_extra "le") (by k_extra "le") ?_
        have := kk rest' fun p hp => hs' p (memsub p hp)
        simpa only [List.append_assoc] using this
end
section
variable {w : World} {p : Program} {loose : List Str} {mean : ExcName → Option Value} {mg mb : Str → Option Value} {rest : List (Addr × Obj)}
theorem sp_shared_nil : SP w p loose mean mg mb (.ref 244) [.ref 77] 12 24 rest (fun r nw => r = .bool false ∧ nw = rest) := by
  obtain ⟨k9, t9, N⟩ := nil_in (w := w) (news := rest)
  ((unfold SP; k_fill; refine' Sp.def ?ho ?hcd ?hb ?hl ?h1 ?h2 ?h3 ?h4 ?_; (case ho | hcd => k_is); (case hb => first | exact fun _ _ => BindsTo.of_eq (binds := [(_, _)]) rfl | exact fun _ _ => BindsTo.of_eq (binds := [(_, _), (_, _)]) rfl | exact fun _ _ => BindsTo.of_eq (binds := [(_, _), (_, _), (_, _)]) rfl | exact fun _ _ => BindsTo.of_eq (binds := [(_, _), (_, _), (_, _), (_, _)]) rfl | exact fun _ _ => BindsTo.of_eq rfl); (case hl => exact locs rfl); (case h1 | h2 | h3 => exact rfl); (case h4 => decide); intro _ _ _ _ _ _ _ _ _ _ _ _ _ _; ((refine wpAny_hide ?_; intro _ hQ))))
  (repeat' (k_extra "w"))
  (((with_reducible refine' r_isTupW ?G ?X ?I ?ok ?hm ?e ?_); (case G | X => assumption); (case I => k_extra "ins"); (case ok => k_extra "iok"); (case hm => k_extra "mem"); (case e => kit_is); intro _))
  (repeat' (k_extra "w"))
  exact hQ _ _ <| r_backP (by assumption) ⟨rfl, rfl⟩ (by k_extra "sel")
theorem new_labels : SP w p loose mean mg mb (.ref 289) [.ref 77] 20 60 rest (fun r nw => ∃ x, r = .ref x ∧ nw = rest) := by
  ((unfold SP; k_fill; refine' Sp.new ?hm ?hi ?hf ?ho ?hcd ?hb ?hl ?h1 ?h2 ?h3 ?h4 ?_; (case hm | hi | hf | ho | hcd => k_is); (case hb => exact fun _ _ _ => BindsTo.of_eq rfl); (case hl => exact fun _ => locs rfl); (case h1 | h2 | h3 => exact rfl); (case h4 => decide); intro _ _ _ _ _ _ _ _ _ _ _ _ _ _ _ _ _; ((refine wpAny_hide ?_; intro _ hQ))))
  (repeat' ((first | k_extra "w" | k_extra "while" | (with_reducible refine' wpAny_Continue ?_) | with_reducible refine r_contq ?_ | with_reducible refine r_wcont ?_ | with_reducible refine' r_cwB0 ?_ | ((with_reducible refine' r_lmeth ?q9G ?q9m PySem.F.slot_list_pop PySem.F.type_list_pop ?_); (case q9G => assumption); (case q9m => k_extra "mem")) | ((with_reducible refine' r_pop1 ?q9G ?q9U ?_); (case q9G => assumption); (case q9U => k_extra "putf"); intro _ _ _))))
  refine r_wturn ?_
  (repeat' ((first | k_extra "w" | k_extra "while" | (with_reducible refine' wpAny_Continue ?_) | with_reducible refine r_contq ?_ | with_reducible refine r_wcont ?_ | with_reducible refine' r_cwB0 ?_ | ((with_reducible refine' r_lmeth ?q9G ?q9m PySem.F.slot_list_pop PySem.F.type_list_pop ?_); (case q9G => assumption); (case q9m => k_extra "mem")) | ((with_reducible refine' r_pop1 ?q9G ?q9U ?_); (case q9G => assumption); (case q9U => k_extra "putf"); intro _ _ _))))
  refine cal (by assumption) sp_shared_nil ?_
  rintro v nw h' t' ⟨rfl, rfl⟩ G
  (repeat' ((first | k_extra "w" | k_extra "while" | (with_reducible refine' wpAny_Continue ?_) | with_reducible refine r_contq ?_ | with_reducible refine r_wcont ?_ | with_reducible refine' r_cwB0 ?_ | ((with_reducible refine' r_lmeth ?q9G ?q9m PySem.F.slot_list_pop PySem.F.type_list_pop ?_); (case q9G => assumption); (case q9m => k_extra "mem")) | ((with_reducible refine' r_pop1 ?q9G ?q9U ?_); (case q9G => assumption); (case q9U => k_extra "putf"); intro _ _ _))))
  refine r_wturn ?_
  (repeat' ((first | k_extra "w" | k_extra "while" | (with_reducible refine' wpAny_Continue ?_) | with_reducible refine r_contq ?_ | with_reducible refine r_wcont ?_ | with_reducible refine' r_cwB0 ?_ | ((with_reducible refine' r_lmeth ?q9G ?q9m PySem.F.slot_list_pop PySem.F.type_list_pop ?_); (case q9G => assumption); (case q9m => k_extra "mem")) | ((with_reducible refine' r_pop1 ?q9G ?q9U ?_); (case q9G => assumption); (case q9U => k_extra "putf"); intro _ _ _))))
  exact hQ _ _ <| r_backP0 (by assumption) ⟨rfl, _, rfl, rfl⟩ (by k_extra "sel")
/-- a row of fresh cells -/
structure Row (rest : List (Addr × Obj)) (ys : List Addr) (vs : List Value) (tv : Value) (L : List (Addr × Obj)) : Prop where
  pw : ys.Pairwise (· > ·)
  len : vs.length = ys.length
  up : ∀ y ∈ ys, ∀ p ∈ rest, p.1 < y
  cell : ∀ (i : Nat) (y : Addr), ys[i]? = some y → ∃ w k t dx j, vs[i]? = some w ∧ (y, instObj 98 dx) ∈ L ∧ (dx, dictOf (coE k t w (atv ys tv (i + 1))) j) ∈ L
theorem Row.nil {tv : Value} : Row rest [] [] tv [] := ⟨.nil, rfl, fun _ h => (nomatch h), fun i y h => by simp at h⟩
theorem Row.cons {ys : List Addr} {vs : List Value} {tv v : Value} {L : List (Addr × Obj)} {x dx : Addr} {k : Nat → Int} {t : Nat → Tok} {j : Nat} (R : Row rest ys vs tv L) (hx : ∀ p ∈ L ++ rest, p.1 < x) :
    Row rest (x :: ys) (v :: vs) tv ((x, instObj 98 dx) :: (dx, dictOf (coE k t v (atv ys tv 0)) j) :: L) := by
  refine ⟨List.pairwise_cons.mpr ⟨fun y hy => ?_, R.pw⟩, by simp [R.len], fun y hy p hp => ?_, fun i y hy => ?_⟩
  · obtain ⟨i, hi, rfl⟩ := List.getElem_of_mem hy
    obtain ⟨w, k, t, dx, j, _, a, _⟩ := R.cell i _ (List.getElem?_eq_getElem hi)
    exact hx _ (List.mem_append_left _ a)
  · rcases List.mem_cons.mp hy with rfl | hy
    · exact hx p (List.mem_append_right _ hp)
    · exact R.up y hy p hp
  · cases i with
    | zero =>
      have e : x = y := Option.some.inj hy
      subst e
      exact ⟨v, k, t, dx, j, rfl, .head _, .tail _ (.head _)⟩
    | succ i =>
      obtain ⟨w, k, t, dx, j, a, b, c⟩ := R.cell i y hy
      exact ⟨w, k, t, dx, j, a, .tail _ (.tail _ b), .tail _ (.tail _ c)⟩
theorem sp_list_any {l : Addr} {vs : List Value} {n : Nat} {tail : Value} {args : List Value} (hargs : args = [.ref l, tail] ∨ (args = [.ref l] ∧ tail = .ref 77)) (hl : (l, listOf vs.toArray n) ∈ rest) (hz : vs.length ≤ 1000) :
    SP w p loose mean mg mb (.ref 230) args 20 60 rest (fun r nw => ∃ ys L, r = atv ys tail 0 ∧ nw = L ++ rest ∧ Row rest ys vs tail L) := by
  unfold SP
  k_fill
  refine' Sp.def (binds := [(Str.ofString "things", .ref l), (Str.ofString "tail", tail)]) ?ho ?hcd ?hb ?hl ?h1 ?h2 ?h3 ?h4 ?_
  case ho => k_is
  case hcd => k_is
  case hb =>
    rcases hargs with rfl | ⟨rfl, rfl⟩
    · exact fun _ X => BindsTo.of_defaults rfl (X 223 { cls := .type "tuple", data := .seq #[.ref 77] } (by k_is)) rfl rfl rfl
    · exact fun _ X => BindsTo.of_defaults rfl (X 223 { cls := .type "tuple", data := .seq #[.ref 77] } (by k_is)) rfl rfl rfl
  case hl => exact locs rfl
  case h1 => exact rfl
  case h2 => exact rfl
  case h3 => exact rfl
  case h4 => decide
  intro A outer A₀ base h₀ h L g d t os hA X G
  refine wpAny_hide fun Q9 hQ => ?_
  (repeat' ((first | k_extra "w" | with_reducible refine' UnaryOp_ ?_ | ((with_reducible refine' r_range3 ?q9G ?q9c ?q9d ?_); (case q9G => assumption); (case q9c => decide); (case q9d => k_extra "pylong"); intro _ _ _) | (with_reducible refine' r_sub ?_ <;> intro _ _) | (with_reducible refine' r_neg ?_ <;> intro _ _))))
  rename_i r _ _
  refine r_forRange (n := vs.length) (fun i m nw => (∃ ys L, nw = L ++ (r, rgObj (vs.length - 1) (-1) (-1) _ _ _) :: rest ∧ Row rest ys (vs.drop (vs.length - i)) tail L ∧ m (Str.ofString "found") = some (atv ys tail 0)) ∧
    m (Str.ofString "things") = some (.ref l)) (by assumption) rfl rfl (by assumption) (.head _) (small_down (by k_extra "le") (by k_extra "le") (by k_extra "le") (by k_extra "le")) size_down ⟨⟨[], [], rfl, by rw [Nat.sub_zero, List.drop_length]; exact .nil, rfl⟩, rfl⟩ ?_ ?_
  · rintro I i h t m nw u oI hi ⟨⟨ys, L, rfl, R, m1⟩, m2⟩ G
    refine wpAny_hide fun Q8 hT => ?_
    (repeat' ((first | k_extra "w" | with_reducible refine' UnaryOp_ ?_ | ((with_reducible refine' r_range3 ?q9G ?q9c ?q9d ?_); (case q9G => assumption); (case q9c => decide); (case q9d => k_extra "pylong"); intro _ _ _) | (with_reducible refine' r_sub ?_ <;> intro _ _) | (with_reducible refine' r_neg ?_ <;> intro _ _))))
    have hx : vs[vs.length - 1 - i]? = some vs[vs.length - 1 - i] := List.getElem?_eq_getElem (by k_extra "le")
    have ei : ((vs.length : Int) - 1 + (i : Int) * -1).toNat = vs.length - 1 - i := by omega
    refine r_item (by assumption) (by k_extra "mem") (by k_extra "le") (by k_extra "le") (v := vs[vs.length - 1 - i]) (by rw [ei]; exact hx) (by with_unfolding_all rfl) ?_
    (repeat' ((first | k_extra "w" | with_reducible refine' UnaryOp_ ?_ | ((with_reducible refine' r_range3 ?q9G ?q9c ?q9d ?_); (case q9G => assumption); (case q9c => decide); (case q9d => k_extra "pylong"); intro _ _ _) | (with_reducible refine' r_sub ?_ <;> intro _ _) | (with_reducible refine' r_neg ?_ <;> intro _ _))))
    refine cal (by assumption) new_cons ?_
    rintro v nw h' t' ⟨x, dx, es, j, rfl, rfl, ⟨k9, t9, rfl⟩, hxx⟩ G
    (repeat' ((first | k_extra "w" | with_reducible refine' UnaryOp_ ?_ | ((with_reducible refine' r_range3 ?q9G ?q9c ?q9d ?_); (case q9G => assumption); (case q9c => decide); (case q9d => k_extra "pylong"); intro _ _ _) | (with_reducible refine' r_sub ?_ <;> intro _ _) | (with_reducible refine' r_neg ?_ <;> intro _ _))))
    have ed : vs.drop (vs.length - (i + 1)) = vs[vs.length - 1 - i] :: vs.drop (vs.length - i) := by
      have e1 : vs.length - (i + 1) = vs.length - 1 - i := by omega
      have e2 : vs.length - i = vs.length - 1 - i + 1 := by omega
      rw [e1, e2]
      exact List.drop_eq_getElem_cons (by k_extra "le")
    refine hT _ _ ?_
    refine' r_turned (Lg.sel ?g ?s) ?j
    case g => assumption
    case j =>
      refine ⟨⟨x :: ys, (x, instObj 98 dx) :: (dx, dictOf (coE k9 t9 vs[vs.length - 1 - i] (atv ys tail 0)) j) :: L, rfl, ?_, rfl⟩, m2⟩
      rw [ed]
      exact R.cons (dx := dx) (k := k9) (t := t9) (j := j) fun p hp => by
        refine hxx p (.tail _ ?_)
        rcases List.mem_append.mp hp with hp | hp
        · exact List.mem_append_left _ hp
        · exact List.mem_append_right _ (.tail _ hp)
    case s => rw [List.cons_append, List.cons_append]; k_extra "sel"
  · rintro h t m nw ⟨⟨ys, L, rfl, R, m1⟩, m2⟩ G
    (repeat' ((first | k_extra "w" | with_reducible refine' UnaryOp_ ?_ | ((with_reducible refine' r_range3 ?q9G ?q9c ?q9d ?_); (case q9G => assumption); (case q9c => decide); (case q9d => k_extra "pylong"); intro _ _ _) | (with_reducible refine' r_sub ?_ <;> intro _ _) | (with_reducible refine' r_neg ?_ <;> intro _ _))))
    rw [Nat.sub_self, List.drop_zero] at R
    refine hQ _ _ <| r_backL (G := G) ⟨ys, L, rfl, rfl, R⟩ (List.Sublist.append (List.Sublist.refl _) (List.Sublist.cons _ (List.Sublist.refl _)))
theorem sp_list_of {l : Addr} {vs : List Value} {n : Nat} {tail : Value} (hl : (l, listOf vs.toArray n) ∈ rest) (hz : vs.length ≤ 1000) :
    SP w p loose mean mg mb (.ref 230) [.ref l, tail] 20 60 rest (fun r nw => ∃ ys L, r = atv ys tail 0 ∧ nw = L ++ rest ∧ Row rest ys vs tail L) := sp_list_any (.inl rfl) hl hz
theorem sp_list_of1 {l : Addr} {vs : List Value} {n : Nat} (hl : (l, listOf vs.toArray n) ∈ rest) (hz : vs.length ≤ 1000) :
    SP w p loose mean mg mb (.ref 230) [.ref l] 20 60 rest (fun r nw => ∃ ys L, r = atv ys (.ref 77) 0 ∧ nw = L ++ rest ∧ Row rest ys vs (.ref 77) L) := sp_list_any (.inr ⟨rfl, rfl⟩) hl hz
end
section
/-- the deck: figures that are not negative -/
noncomputable def Deck (vs : List Value) : Prop := ∃ ns, IntsAre vs ns ∧ (∀ x ∈ ns, (0 : Int) ≤ x) ∧ ns.length ≤ 16
theorem deck_cases {vs : List Value} (h : Deck vs) : vs = [] ∨ ∃ c u vs', vs = .int c u :: vs' ∧ 0 ≤ c ∧ Deck vs' ∧ vs.length ≤ 16 := by
  obtain ⟨ns, hi, h0, hl⟩ := h
  cases hi with
  | nil => exact .inl rfl
  | cons c u r => exact .inr ⟨c, u, _, rfl, h0 c (.head _), ⟨_, r, fun x hx => h0 x (.tail _ hx), by simp at hl; omega⟩, by simp at hl ⊢; rw [r.length]; omega⟩
theorem deck_len {vs : List Value} (h : Deck vs) : vs.length ≤ 16 := by
  obtain ⟨ns, hi, h0, hl⟩ := h
  rw [hi.length]; exact hl
theorem deck_set {c c' : Int} {u u' : Tok} {vs : List Value} (h : Deck (.int c u :: vs)) (hc : 0 ≤ c') : Deck (.int c' u' :: vs) := by
  obtain ⟨ns, hi, h0, hl⟩ := h
  cases hi with
  | cons k t r => exact ⟨c' :: _, .cons _ _ r, fun x hx => by rcases List.mem_cons.mp hx with rfl | hx; exact hc; exact h0 x (.tail _ hx), by simpa using hl⟩
section
variable {prog : Program} {w : World} {A : Around} {env : Env} {test : Expr} {body : List Stmt} {Q : Flow → Shared → Prop} {h₀ : Heap} {L a : Addr} {g : Array GenState} {d : Drawn} {os : OsState} {rest : List (Addr × Obj)}
theorem wh_deck (M : (Str → Option Value) → Prop)
    (step : ∀ vs n h t m, Deck vs → M m → Lg h₀ L h m ((a, listOf vs.toArray n) :: rest) → (∀ vs' n' h' t' m', vs'.length < vs.length → Deck vs' → M m' → Lg h₀ L h' m' ((a, listOf vs'.toArray n') :: rest) → WhR prog w A env test body Q ⟨h', g, d, t', os⟩) →
      (∀ n' h' t', Lg h₀ L h' m ((a, listOf vs.toArray n') :: rest) → Q .next ⟨h', g, d, t', os⟩) → WhR prog w A env test body Q ⟨h, g, d, t, os⟩)
    (fin : ∀ vs n h t m, Deck vs → M m → Lg h₀ L h m ((a, listOf vs.toArray n) :: rest) → Q .next ⟨h, g, d, t, os⟩) :
    ∀ k vs n h t m, vs.length ≤ k → Deck vs → M m → Lg h₀ L h m ((a, listOf vs.toArray n) :: rest) → WhR prog w A env test body Q ⟨h, g, d, t, os⟩
  | 0, vs, n, h, t, m, hk, D, hm, G => step vs n h t m D hm G (fun vs' n' h' t' m' hl => by omega) fun n' h' t' G => fin vs n' h' t' m D hm G
  | k + 1, vs, n, h, t, m, hk, D, hm, G => step vs n h t m D hm G (fun vs' n' h' t' m' hl D hm G => wh_deck M step fin k vs' n' h' t' m' (by k_extra "le") D hm G) fun n' h' t' G => fin vs n' h' t' m D hm G
end
variable {w : World} {p : Program} {loose : List Str} {mean : ExcName → Option Value} {mg mb : Str → Option Value} {rest : List (Addr × Obj)}
theorem sp_draw {a : Addr} {vs : List Value} {n : Nat} {k : Int} {u : Tok} (hk : 0 < k) (hk2 : k < 100) (D : Deck vs) :
    SP w p loose mean mg mb (.ref 529) [.ref a, .int k u] 20 100 ((a, listOf vs.toArray n) :: rest) (fun r nw => ∃ c u, r = .int c u ∧ 0 ≤ c ∧ c < k ∧ ∃ vs' n', nw = (a, listOf vs'.toArray n') :: rest ∧ Deck vs') := by
  ((unfold SP; k_fill; refine' Sp.def ?ho ?hcd ?hb ?hl ?h1 ?h2 ?h3 ?h4 ?_; (case ho | hcd => k_is); (case hb => first | exact fun _ _ => BindsTo.of_eq (binds := [(_, _)]) rfl | exact fun _ _ => BindsTo.of_eq (binds := [(_, _), (_, _)]) rfl | exact fun _ _ => BindsTo.of_eq (binds := [(_, _), (_, _), (_, _)]) rfl | exact fun _ _ => BindsTo.of_eq (binds := [(_, _), (_, _), (_, _), (_, _)]) rfl | exact fun _ _ => BindsTo.of_eq rfl); (case hl => exact locs rfl); (case h1 | h2 | h3 => exact rfl); (case h4 => decide); intro _ _ _ _ _ _ _ _ _ _ _ _ _ _; ((refine wpAny_hide ?_; intro _ hQ))))
  (repeat' ((first | k_extra "w" | ((with_reducible refine' wpAny_Assign_Subscript ?_ ?q9hs); (case q9hs => exact rfl)) | k_extra "while" | with_reducible refine r_wnext ?_ | ((with_reducible refine' r_lmeth ?q9G ?q9m PySem.F.slot_list_pop PySem.F.type_list_pop ?_); (case q9G => assumption); (case q9m => k_extra "mem")))))
  refine wh_deck (a := a) (rest := rest) (fun m => m (Str.ofString "deck") = some (.ref a) ∧ m (Str.ofString "many") = some (.int k u)) ?step ?fin _ vs n _ _ _ (Nat.le_refl _) D ⟨rfl, rfl⟩ (by assumption)
  case step =>
    rintro vs n h t m D ⟨m1, m2⟩ G go out
    have hvl := deck_len D
    rcases deck_cases D with rfl | ⟨c, u0, vs', rfl, hc, D', _⟩
    · refine r_wturn ?_
      (repeat' ((first | k_extra "w" | ((with_reducible refine' wpAny_Assign_Subscript ?_ ?q9hs); (case q9hs => exact rfl)) | k_extra "while" | with_reducible refine r_wnext ?_ | ((with_reducible refine' r_lmeth ?q9G ?q9m PySem.F.slot_list_pop PySem.F.type_list_pop ?_); (case q9G => assumption); (case q9m => k_extra "mem")))))
      refine r_neInts (by assumption) (by decide) (by assumption) (by k_extra "mem") (by k_extra "mem") .nil .nil ?_
      repeat' (first | exact out _ _ _ (Lg.sel (by assumption) (by k_extra "sel")) | (first | k_extra "w" | ((with_reducible refine' wpAny_Assign_Subscript ?_ ?q9hs); (case q9hs => exact rfl)) | k_extra "while" | with_reducible refine r_wnext ?_ | ((with_reducible refine' r_lmeth ?q9G ?q9m PySem.F.slot_list_pop PySem.F.type_list_pop ?_); (case q9G => assumption); (case q9m => k_extra "mem"))))
    · obtain ⟨ns, hns, _, _⟩ := id D'
      refine r_wturn ?_
      (repeat' ((first | k_extra "w" | ((with_reducible refine' wpAny_Assign_Subscript ?_ ?q9hs); (case q9hs => exact rfl)) | k_extra "while" | with_reducible refine r_wnext ?_ | ((with_reducible refine' r_lmeth ?q9G ?q9m PySem.F.slot_list_pop PySem.F.type_list_pop ?_); (case q9G => assumption); (case q9m => k_extra "mem")))))
      refine r_neInts (by assumption) (by decide) (by assumption) (by k_extra "mem") (by k_extra "mem") (.cons c u0 hns) .nil ?_
      (repeat' ((first | k_extra "w" | ((with_reducible refine' wpAny_Assign_Subscript ?_ ?q9hs); (case q9hs => exact rfl)) | k_extra "while" | with_reducible refine r_wnext ?_ | ((with_reducible refine' r_lmeth ?q9G ?q9m PySem.F.slot_list_pop PySem.F.type_list_pop ?_); (case q9G => assumption); (case q9m => k_extra "mem")))))
      refine r_item (by assumption) (by k_extra "mem") (by decide) (by decide) (v := .int c u0) rfl (by with_unfolding_all rfl) ?_
      by_cases c0 : c = 0
      · (repeat' ((first | k_extra "w" | ((with_reducible refine' wpAny_Assign_Subscript ?_ ?q9hs); (case q9hs => exact rfl)) | k_extra "while" | with_reducible refine r_wnext ?_ | ((with_reducible refine' r_lmeth ?q9G ?q9m PySem.F.slot_list_pop PySem.F.type_list_pop ?_); (case q9G => assumption); (case q9m => k_extra "mem")))))
        refine' r_pop0 ?G ?U ?z ?_
        case G => assumption
        case U => k_extra "putf"
        case z => have := sizeLine_eq; simp at hvl; omega
        intro n' h' G
        (repeat' ((first | k_extra "w" | ((with_reducible refine' wpAny_Assign_Subscript ?_ ?q9hs); (case q9hs => exact rfl)) | k_extra "while" | with_reducible refine r_wnext ?_ | ((with_reducible refine' r_lmeth ?q9G ?q9m PySem.F.slot_list_pop PySem.F.type_list_pop ?_); (case q9G => assumption); (case q9m => k_extra "mem")))))
        refine go vs' _ _ _ _ (by simp) D' ⟨m1, m2⟩ (Lg.sel (by assumption) (by k_extra "sel"))
      · repeat' (first | exact out _ _ _ (Lg.sel (by assumption) (by k_extra "sel")) | (first | k_extra "w" | ((with_reducible refine' wpAny_Assign_Subscript ?_ ?q9hs); (case q9hs => exact rfl)) | k_extra "while" | with_reducible refine r_wnext ?_ | ((with_reducible refine' r_lmeth ?q9G ?q9m PySem.F.slot_list_pop PySem.F.type_list_pop ?_); (case q9G => assumption); (case q9m => k_extra "mem"))))
  case fin =>
    rintro vs n h t m D ⟨m1, m2⟩ G
    have hvl := deck_len D
    rcases deck_cases D with rfl | ⟨c, u0, vs', rfl, hc, D', _⟩
    · (repeat' ((first | k_extra "w" | ((with_reducible refine' wpAny_Assign_Subscript ?_ ?q9hs); (case q9hs => exact rfl)) | k_extra "while" | with_reducible refine r_wnext ?_ | ((with_reducible refine' r_lmeth ?q9G ?q9m PySem.F.slot_list_pop PySem.F.type_list_pop ?_); (case q9G => assumption); (case q9m => k_extra "mem")))))
      refine r_eqInts (by assumption) (by decide) (by assumption) (by k_extra "mem") (by k_extra "mem") .nil .nil ?_
      (repeat' ((first | k_extra "w" | ((with_reducible refine' wpAny_Assign_Subscript ?_ ?q9hs); (case q9hs => exact rfl)) | k_extra "while" | with_reducible refine r_wnext ?_ | ((with_reducible refine' r_lmeth ?q9G ?q9m PySem.F.slot_list_pop PySem.F.type_list_pop ?_); (case q9G => assumption); (case q9m => k_extra "mem")))))
      exact hQ _ _ <| r_backP (by assumption) ⟨0, _, rfl, by decide, hk, [], _, rfl, D⟩ (by k_extra "sel")
    · obtain ⟨ns, hns, _, _⟩ := id D'
      (repeat' ((first | k_extra "w" | ((with_reducible refine' wpAny_Assign_Subscript ?_ ?q9hs); (case q9hs => exact rfl)) | k_extra "while" | with_reducible refine r_wnext ?_ | ((with_reducible refine' r_lmeth ?q9G ?q9m PySem.F.slot_list_pop PySem.F.type_list_pop ?_); (case q9G => assumption); (case q9m => k_extra "mem")))))
      refine r_eqInts (by assumption) (by decide) (by assumption) (by k_extra "mem") (by k_extra "mem") (.cons c u0 hns) .nil ?_
      (repeat' ((first | k_extra "w" | ((with_reducible refine' wpAny_Assign_Subscript ?_ ?q9hs); (case q9hs => exact rfl)) | k_extra "while" | with_reducible refine r_wnext ?_ | ((with_reducible refine' r_lmeth ?q9G ?q9m PySem.F.slot_list_pop PySem.F.type_list_pop ?_); (case q9G => assumption); (case q9m => k_extra "mem")))))
      refine r_item (by assumption) (by k_extra "mem") (by decide) (by decide) (v := .int c u0) rfl (by with_unfolding_all rfl) ?_
      (repeat' ((first | k_extra "w" | ((with_reducible refine' wpAny_Assign_Subscript ?_ ?q9hs); (case q9hs => exact rfl)) | k_extra "while" | with_reducible refine r_wnext ?_ | ((with_reducible refine' r_lmeth ?q9G ?q9m PySem.F.slot_list_pop PySem.F.type_list_pop ?_); (case q9G => assumption); (case q9m => k_extra "mem")))))
      refine r_mod hk fun u5 t5 => ?_
      (repeat' ((first | k_extra "w" | ((with_reducible refine' wpAny_Assign_Subscript ?_ ?q9hs); (case q9hs => exact rfl)) | k_extra "while" | with_reducible refine r_wnext ?_ | ((with_reducible refine' r_lmeth ?q9G ?q9m PySem.F.slot_list_pop PySem.F.type_list_pop ?_); (case q9G => assumption); (case q9m => k_extra "mem")))))
      refine r_item (by assumption) (by k_extra "mem") (by decide) (by decide) (v := .int c u0) rfl (by with_unfolding_all rfl) ?_
      (repeat' ((first | k_extra "w" | ((with_reducible refine' wpAny_Assign_Subscript ?_ ?q9hs); (case q9hs => exact rfl)) | k_extra "while" | with_reducible refine r_wnext ?_ | ((with_reducible refine' r_lmeth ?q9G ?q9m PySem.F.slot_list_pop PySem.F.type_list_pop ?_); (case q9G => assumption); (case q9m => k_extra "mem")))))
      refine r_fdiv hk (by k_extra "le") fun u6 t6 => ?_
      (repeat' ((first | k_extra "w" | ((with_reducible refine' wpAny_Assign_Subscript ?_ ?q9hs); (case q9hs => exact rfl)) | k_extra "while" | with_reducible refine r_wnext ?_ | ((with_reducible refine' r_lmeth ?q9G ?q9m PySem.F.slot_list_pop PySem.F.type_list_pop ?_); (case q9G => assumption); (case q9m => k_extra "mem")))))
      refine' r_setItem ?G ?U (by decide) (by decide) ?h2 ?_
      case G => assumption
      case U => k_extra "putf"
      case h2 => simp only [List.length_cons]; omega
      intro n' h' G
      have e9 : (Value.int c u0 :: vs').set (Int.toNat 0) (.int (c / k) u6) = .int (c / k) u6 :: vs' := rfl
      rw [e9] at G
      (repeat' ((first | k_extra "w" | ((with_reducible refine' wpAny_Assign_Subscript ?_ ?q9hs); (case q9hs => exact rfl)) | k_extra "while" | with_reducible refine r_wnext ?_ | ((with_reducible refine' r_lmeth ?q9G ?q9m PySem.F.slot_list_pop PySem.F.type_list_pop ?_); (case q9G => assumption); (case q9m => k_extra "mem")))))
      exact hQ _ _ <| r_backP (by assumption) ⟨c % k, _, rfl, Int.emod_nonneg _ (by k_extra "le"), Int.emod_lt_of_pos _ hk, .int (c / k) _ :: vs', _, rfl, deck_set D (Int.ediv_nonneg hc (by k_extra "le"))⟩ (by k_extra "sel")
end
section
variable {w : World} {p : Program} {loose : List Str} {mean : ExcName → Option Value} {mg mb : Str → Option Value} {rest : List (Addr × Obj)}
noncomputable abbrev obE (k : Nat → Int) (t : Nat → Tok) (rA nA : Addr) : List DictEntry := [en k t 0 "rows" (.ref rA), en k t 1 "names" (.ref nA)]
theorem obE_ex {h0 h1 : Int} {t0 t1 : Tok} {a b : Addr} : ∃ k t, ([⟨h0, .str (Str.ofString "rows") t0, .ref a⟩, ⟨h1, .str (Str.ofString "names") t1, .ref b⟩] : List DictEntry) = obE k t a b := ⟨fun i => [h0, h1].getD i 0, fun i => [t0, t1].getD i 0, rfl⟩
/-- the table's names stand for symbols of theirs -/
noncomputable def TabOk (w : World) (kvs : List (Str × Value)) (rest : List (Addr × Obj)) : Prop := ∀ x v, valueAt kvs x = some v → ∃ sx k t num, v = .ref sx ∧ InsIn (fr.heap_1 w.params) rest sx 71 (syE k t num x)
theorem valueAt_snoc {kvs : List (Str × Value)} {x y : Str} {v v' : Value} (h : valueAt (kvs ++ [(x, v)]) y = some v') : valueAt kvs y = some v' ∨ (x = y ∧ v = v') := by
  unfold valueAt at h ⊢
  rw [List.find?_append] at h
  cases hf : kvs.find? (fun kv => kv.1 = y) with
  | some kv => rw [hf] at h; exact .inl h
  | none =>
    rw [hf] at h
    by_cases e : x = y
    · simp [e] at h; exact .inr ⟨e, h⟩
    · simp [e] at h
theorem new_obarray : SP w p loose mean mg mb (.ref 513) [] 20 60 rest (fun r nw => ∃ tb dT j es rA nA oN, r = .ref tb ∧ nw = (rA, listOf [Value.ref 77, Value.ref 80].toArray 0) :: (nA, oN) :: (tb, instObj 513 dT) :: (dT, dictOf es j) :: rest ∧ (∃ k t, es = obE k t rA nA) ∧ KD PySem.Challenge.rw_np0072_01.row.toRowW.prog w oN [(Str.ofString "nil", .ref 77), (Str.ofString "t", .ref 80)] ∧ (∀ p ∈ rest, p.1 < tb) ∧ (nA == sysModules) = false) := by
  ((unfold SP; k_fill; refine' Sp.new ?hm ?hi ?hf ?ho ?hcd ?hb ?hl ?h1 ?h2 ?h3 ?h4 ?_; (case hm | hi | hf | ho | hcd => k_is); (case hb => exact fun _ _ _ => BindsTo.of_eq rfl); (case hl => exact fun _ => locs rfl); (case h1 | h2 | h3 => exact rfl); (case h4 => decide); intro _ _ _ _ _ _ _ _ _ _ _ _ _ _ _ _ _; ((refine wpAny_hide ?_; intro _ hQ))))
  (repeat' (k_extra "w"))
  refine r_dict (pairs := [(_, _), (_, _)]) (by assumption) (by assumption) rfl (by simp) (by simp) fun D h' G lt low => ?_
  refine r_dpair (wpAny_bind (wpAny_fresh (wpAny_pure (wpAny_bind ?_))))
  (repeat' (k_extra "w"))
  refine wpAny_bind (wpAny_standAt (wpAny_pure ?_))
  refine r_dpair (wpAny_bind (wpAny_fresh (wpAny_pure (wpAny_bind ?_))))
  (repeat' (k_extra "w"))
  refine wpAny_bind (wpAny_standAt (wpAny_pure ?_))
  refine r_dpairs ?_
  refine ⟨[(Str.ofString "nil", .ref 77), (Str.ofString "t", .ref 80)], ⟨strKind_is _ w _ _, rfl, strKind_is _ w _ _, rfl, trivial⟩, Heap.dictOf_iff.mpr ⟨_, G.get (.head _), kd_empty⟩, fun h2 hm hs => ?_⟩
  obtain ⟨oN, ho, hd⟩ := Heap.dictOf_iff.mp hm
  have G := G.put .head hs ho
  (repeat' (k_extra "w"))
  exact hQ _ _ <| r_backP0 (by assumption) ⟨rfl, _, _, _, _, _, _, oN, rfl, rfl, obE_ex, hd, by assumption, low⟩ (by k_extra "sel")
theorem sp_fresh {tb rA nA : Addr} {k : Nat → Int} {t : Nat → Tok} {rvs : List Value} {n : Nat} {x : Str} {u : Tok} (I : InsIn (fr.heap_1 w.params) rest tb 513 (obE k t rA nA)) (hz : rvs.length ≤ 1000000) :
    SP w p loose mean mg mb (.ref 475) [.ref tb, .str x u] 20 60 ((rA, listOf rvs.toArray n) :: rest) (fun r nw => ∃ sx L, ∃ rvs' : List Value, ∃ n', r = .ref sx ∧ nw = (rA, listOf rvs'.toArray n') :: (L ++ rest) ∧ rvs'.length = rvs.length + 1 ∧ ∃ k t num, InsIn (fr.heap_1 w.params) L sx 71 (syE k t num x)) := by
  ((unfold SP; k_fill; refine' Sp.def ?ho ?hcd ?hb ?hl ?h1 ?h2 ?h3 ?h4 ?_; (case ho | hcd => k_is); (case hb => first | exact fun _ _ => BindsTo.of_eq (binds := [(_, _)]) rfl | exact fun _ _ => BindsTo.of_eq (binds := [(_, _), (_, _)]) rfl | exact fun _ _ => BindsTo.of_eq (binds := [(_, _), (_, _), (_, _)]) rfl | exact fun _ _ => BindsTo.of_eq (binds := [(_, _), (_, _), (_, _), (_, _)]) rfl | exact fun _ _ => BindsTo.of_eq rfl); (case hl => exact locs rfl); (case h1 | h2 | h3 => exact rfl); (case h4 => decide); intro _ _ _ _ _ _ _ _ _ _ _ _ _ _; ((refine wpAny_hide ?_; intro _ hQ))))
  (repeat' (k_extra "w"))
  refine cal (by assumption) new_sym ?_
  rintro v nw h' t' ⟨sx, dx, es, j, rfl, rfl, ⟨k9, t9, rfl⟩, hxx⟩ G
  (repeat' (k_extra "w"))
  exact hQ _ _ <| r_backP (by assumption) ⟨sx, [(sx, instObj 71 dx), (dx, dictOf (syE k9 t9 _ x) j)], rvs ++ [.ref sx], _, rfl, rfl, by simp, k9, t9, _, .news (.head _) (.tail _ (.head _))⟩ (by show Sel (_ :: _ :: _ :: rest) _; k_extra "sel")
theorem sp_intern {bs : List (Addr × Obj)} {tb rA nA : Addr} {k : Nat → Int} {t : Nat → Tok} {rvs : List Value} {n : Nat} {oN : Obj} {kvs : List (Str × Value)} {x : Str} {u : Tok} (hbs : ∀ p ∈ bs, p ∈ rest) (I : InsIn (fr.heap_1 w.params) bs tb 513 (obE k t rA nA)) (hz : rvs.length ≤ 1000000) (hd : KD PySem.Challenge.rw_np0072_01.row.toRowW.prog w oN kvs) (hk : kvs.length ≤ 1000000) (ok : TabOk w kvs bs) (low : (nA == sysModules) = false) :
    SP w p loose mean mg mb (.ref 461) [.ref tb, .str x u] 24 70 ((rA, listOf rvs.toArray n) :: (nA, oN) :: rest) (fun r nw => ∃ sx L, ∃ rvs' : List Value, ∃ n' oN' kvs', r = .ref sx ∧ nw = (rA, listOf rvs'.toArray n') :: (nA, oN') :: (L ++ rest) ∧ rvs'.length ≤ rvs.length + 1 ∧ kvs'.length ≤ kvs.length + 1 ∧ KD PySem.Challenge.rw_np0072_01.row.toRowW.prog w oN' kvs' ∧ TabOk w kvs' (L ++ bs) ∧ ∃ k t num, InsIn (fr.heap_1 w.params) (L ++ bs) sx 71 (syE k t num x)) := by
  have hd' := hd
  have I := I.mono hbs
  obtain ⟨hc1, hc2⟩ : oN.cls = .type "dict" ∧ oN.dict = none := by
    obtain ⟨es, ep, ⟨a, b, c⟩, _⟩ := hd
    exact ⟨a, b⟩
  ((unfold SP; k_fill; refine' Sp.def ?ho ?hcd ?hb ?hl ?h1 ?h2 ?h3 ?h4 ?_; (case ho | hcd => k_is); (case hb => first | exact fun _ _ => BindsTo.of_eq (binds := [(_, _)]) rfl | exact fun _ _ => BindsTo.of_eq (binds := [(_, _), (_, _)]) rfl | exact fun _ _ => BindsTo.of_eq (binds := [(_, _), (_, _), (_, _)]) rfl | exact fun _ _ => BindsTo.of_eq (binds := [(_, _), (_, _), (_, _), (_, _)]) rfl | exact fun _ _ => BindsTo.of_eq rfl); (case hl => exact locs rfl); (case h1 | h2 | h3 => exact rfl); (case h4 => decide); intro _ _ _ _ _ _ _ _ _ _ _ _ _ _; ((refine wpAny_hide ?_; intro _ hQ))))
  (repeat' ((first | k_extra "w" | with_reducible refine Constant_none ?_ | ((with_reducible refine' wpAny_Assign_Subscript ?_ ?q9hs); (case q9hs => exact rfl)) | with_reducible refine' r_isRefNone ?_ | with_reducible refine' r_isNoneNone ?_)))
  refine' r_dmeth ?G ?m ?c ?d PySem.F.slot_dict_get PySem.F.type_dict_get ?_
  case G => assumption
  case m => k_extra "mem"
  case c => exact hc1
  case d => exact hc2
  (repeat' ((first | k_extra "w" | with_reducible refine Constant_none ?_ | ((with_reducible refine' wpAny_Assign_Subscript ?_ ?q9hs); (case q9hs => exact rfl)) | with_reducible refine' r_isRefNone ?_ | with_reducible refine' r_isNoneNone ?_)))
  refine r_dget (by assumption) (by assumption) (by k_extra "mem") hd low ?_
  cases hv : valueAt kvs x with
  | some v =>
    obtain ⟨sx, k2, t2, num, rfl, S⟩ := ok x v hv
    simp only [Option.getD_some]
    (repeat' ((first | k_extra "w" | with_reducible refine Constant_none ?_ | ((with_reducible refine' wpAny_Assign_Subscript ?_ ?q9hs); (case q9hs => exact rfl)) | with_reducible refine' r_isRefNone ?_ | with_reducible refine' r_isNoneNone ?_)))
    exact hQ _ _ <| r_backP (by assumption) ⟨sx, [], rvs, _, _, kvs, rfl, rfl, by omega, by omega, hd, ok, k2, t2, num, S⟩ (by show Sel (_ :: _ :: rest) _; k_extra "sel")
  | none =>
    simp only [Option.getD_none]
    (repeat' ((first | k_extra "w" | with_reducible refine Constant_none ?_ | ((with_reducible refine' wpAny_Assign_Subscript ?_ ?q9hs); (case q9hs => exact rfl)) | with_reducible refine' r_isRefNone ?_ | with_reducible refine' r_isNoneNone ?_)))
    refine cal (by assumption) (sp_fresh (I.mono (by k_extra "sub")) hz) ?_
    rintro v nw h' t' ⟨sx, L9, rvs', n', rfl, rfl, hr, k9, t9, num, S⟩ G
    (repeat' ((first | k_extra "w" | with_reducible refine Constant_none ?_ | ((with_reducible refine' wpAny_Assign_Subscript ?_ ?q9hs); (case q9hs => exact rfl)) | with_reducible refine' r_isRefNone ?_ | with_reducible refine' r_isNoneNone ?_)))
    refine' r_dset ?G ?U hd ?z ?_
    case G => assumption
    case U => exact PutF.tail (PutF.app PutF.head)
    case z => have := sizeLine_eq; omega
    intro oN' h' t' G hd2
    (repeat' ((first | k_extra "w" | with_reducible refine Constant_none ?_ | ((with_reducible refine' wpAny_Assign_Subscript ?_ ?q9hs); (case q9hs => exact rfl)) | with_reducible refine' r_isRefNone ?_ | with_reducible refine' r_isNoneNone ?_)))
    rw [stored_absent hv] at hd2
    exact hQ _ _ <| r_backP (by assumption) ⟨sx, L9, rvs', _, _, _, rfl, rfl, by omega, by simp, hd2, fun y v' hy => (valueAt_snoc hy).elim (fun h => by
      obtain ⟨a, b, c, e, f, g⟩ := ok y v' h
      exact ⟨a, b, c, e, f, g.mono fun p hp => List.mem_append_right _ hp⟩) (fun h => by
      obtain ⟨rfl, rfl⟩ := h
      exact ⟨sx, k9, t9, num, rfl, S.mono fun p hp => List.mem_append_left _ hp⟩), k9, t9, num, S.mono fun p hp => List.mem_append_left _ hp⟩ (by k_extra "sel")
end
section
section
variable {prog : Program} {w : World} {K : Frag} {p : Program} {loose : List Str} {mean : ExcName → Option Value} {mg mb : Str → Option Value} {news : List (Addr × Obj)}
/-- a contract that leans on what stood before the frame -/
noncomputable def SpH (prog : Program) (w : World) (K : Frag) (p : Program) (loose : List Str) (mean : ExcName → Option Value) (mg mb : Str → Option Value) (H : Heap → Prop) (f : Value) (vs : List Value) (dn un : Nat) (news : List (Addr × Obj)) (post : Value → List (Addr × Obj) → Prop) : Prop :=
  ∀ (A : Around) (env : Env) (outer : List Env) (A₀ : Around) (base h₀ h : Heap) (L : Addr) (m : Str → Option Value) (g : Array GenState) (d : Drawn) (t : Nat) (os : OsState) (Q E : Value → Shared → Prop),
    Ar A env outer dn un → env.frame = some L → env.scope.kind = .function → Gr K p loose mean mg mb A₀ base outer h₀ → Lg h₀ L h m news → H h₀ →
    (∀ v news' h' t', post v news' → Lg h₀ L h' m news' → Q v ⟨h', g, d, t', os⟩) → wpAny (model prog w) A (call f vs) Q E ⟨h, g, d, t, os⟩
theorem SpH.def {H : Heap → Prop} (mono : ∀ h h' : Heap, (∀ b o, h.get? b = some o → h'.get? b = some o) → H h → H h') {f : Addr} {vs : List Value} {dn un : Nat} {post : Value → List (Addr × Obj) → Prop} {name qual : Str} {params : Arguments} {body : List Stmt} {scope : Scope} {dV kV doc pm cdv ct oc : Value} {an od : Option Addr} {osl : Array (Option Value)} {binds : List (Str × Value)}
    (ho : K.lookup f = some ⟨oc, od, .func (fnOf name qual params body scope dV kV doc pm an cdv ct), osl⟩) (hcd : codeIn K cdv qual = true)
    (hbind : ∀ s : Shared, K.In s.heap → BindsTo s (fnOf name qual params body scope dV kV doc pm an cdv ct) ⟨vs, []⟩ binds) (hloc : ∀ y ∈ binds, scope.names.lookup y.1 = some .local)
    (hco : scope.isCoroutine = false) (hgen : scope.isGenerator = false) (hk : scope.kind = .function) (hcell : ∀ x ∈ scope.names, x.2 ≠ .cell)
    (k : ∀ (A : Around) (outer : List Env) (A₀ : Around) (base h₀ h : Heap) (L : Addr) (g : Array GenState) (d : Drawn) (t : Nat) (os : OsState), H h →
      Ar A (envX qual scope L f cdv []) outer dn un → Gr K p loose mean mg mb A₀ base outer h₀ → Lg h₀ L h (fun y => binds.reverse.lookup y) news →
      wpAny (model prog w) A (execs body (envX qual scope L f cdv [])) (Back h₀ L g d os post) (fun _ _ => False) ⟨h, g, d, t, os⟩) :
    SpH prog w K p loose mean mg mb H (.ref f) vs (dn + 1) (un + 3) news post := by
  intro A env outer A₀ base h₀ h L m g d t os Q E a hf hke X G hH q
  refine wpAny_call ?_
  refine code_def (s := ⟨h, g, d, t, os⟩) X.b G.fr X.x G.nw X.t a.fr hf hke ho hcd (by have := a.dp; omega) (hbind _ (X.x.keeps G.fr.keep)) hloc (fun g' L' h₁ FG F' N' B' X' T' => ?_) hco hgen hk hcell
  refine wpAny_mono (k (A.deeper (envOf qual scope L' f cdv)) (env :: outer) A base g' h₁ L' _ _ _ _ (mono g' h₁ F'.keep (mono h₀ g' FG.keep hH)) ⟨a.hd, ?_, ?_, ?_⟩ ⟨B', X', T'⟩ ⟨F', N', G.nd⟩) (fun fl s' z => ?_) fun _ _ z => z.elim
  · show A.frames.map _ = _
    rw [a.fr]; rfl
  · show A.depth + 1 + dn < _
    have := a.dp; omega
  · show A.units + 3 + un < _
    have := a.us; omega
  · obtain ⟨h', t', m', news', rfl, G', z⟩ := z
    exact leaveK_ (s' := ⟨h', g, d, t', os⟩) G'.fr G'.nw fun F N => q _ _ _ _ z ⟨F, N, G'.nd⟩
theorem r_slListH {A : Around} {E : Value → Shared → Prop} {h₀ h : Heap} {L : Addr} {m : Str → Option Value} {g : Array GenState} {d : Drawn} {t : Nat} {os : OsState} {value slice : Expr} {l : Addr} {vs : List Value} {uj : Tok} {j : Int} {Q : Value → Shared → Prop} (G : Lg h₀ L h m news) (hl : h.IsList l vs.toArray) (hj : 0 ≤ j)
    (hs : subscripted slice false (.ref l) (.ref h.objs.size) = operate [.ref h.objs.size, .ref l] (getItem (.ref l) (.ref h.objs.size))) (ht : ∀ r, letTemporaryGo value (.ref l) r = pure ()) (hz : vs.length ≤ sizeLine)
    (k : ∀ D h', Lg h₀ L h' m ((D, listOf (vs.take j.toNat).toArray 0) :: news) → Q (.ref D) ⟨h', g, d, t, os⟩) :
    wpAny (model prog w) A (subscriptTail value slice (.ref l) (.ref h.objs.size)) Q E ⟨h.push { cls := .type "slice", data := .fields #[.none, .int j uj, .none] }, g, d, t, os⟩ := by
  refine kmk_slice (s := ⟨h, g, d, t, os⟩) (lo := none) (hi := some j) G.fr G.nw hl .none (.int _ _) (fun D h' F N lt => ?_) hs ht (by simpa using hz)
  have e : slicePick vs.toArray none (some j) none = (vs.take j.toNat).toArray := by
    have ej : j = (j.toNat : Int) := by omega
    have q := PySem.slicePick_upto' vs.toArray j.toNat
    rw [← ej] at q
    rw [q]
  rw [e] at N
  exact k D h' (G.more F N lt)
end
variable {w : World} {p : Program} {loose : List Str} {mean : ExcName → Option Value} {mg mb : Str → Option Value} {rest : List (Addr × Obj)}
theorem sp_deck {sa : Addr} {vs : List Value} {ns : List Int} (hi : IntsAre vs ns) (hz : vs.length ≤ 63) :
    SpH PySem.Challenge.rw_np0072_01.row.toRowW.prog w (fr.heap_1 w.params) p loose mean mg mb (fun h => h.IsList sa vs.toArray) (.ref 522) [.ref sa] 20 60 rest (fun r nw => ∃ D ds n, r = .ref D ∧ nw = (D, listOf ds.toArray n) :: rest ∧ Deck ds) := by
  k_fill
  refine' SpH.def ?mono ?ho ?hcd ?hb ?hl ?h1 ?h2 ?h3 ?h4 ?_
  case mono => exact fun h h' k ⟨o, a, b⟩ => ⟨o, k _ _ a, b⟩
  case ho => k_is
  case hcd => k_is
  case hb => exact fun _ _ => BindsTo.of_eq rfl
  case hl => exact locs rfl
  case h1 => exact rfl
  case h2 => exact rfl
  case h3 => exact rfl
  case h4 => decide
  intro A outer A₀ base h₀ h L g d t os hH hA X G
  refine wpAny_hide fun Q9 hQ => ?_
  (repeat' ((first | k_extra "w" | with_reducible refine' wpAny_Slice ?_ | ((with_reducible refine' r_lc ?q9c ?q9k ?q9n ?q9s ?_); (case q9c | q9k => exact rfl); (case q9n => decide); (case q9s => (intro _; exact rfl))) | ((with_reducible refine' r_gL ?q9G ?q9n ?q9m ?q9v ?q9a ?q9b ?q9c ?_); (case q9G | q9n => assumption); (case q9m => k_extra "mem"); (case q9v => assumption); (case q9a | q9b => exact rfl); (case q9c => decide)) | ((with_reducible refine' r_gB ?q9G ?q9X ?q9e ?q9v ?q9n ?q9g ?q9gb ?q9a ?q9b ?q9c ?_); (case q9G | q9X => assumption); (case q9g | q9gb | q9a | q9b => exact rfl); (case q9e => k_is); (case q9v => boot_fast); (case q9n | q9c => decide)) | (with_reducible refine' r_abs ?_ <;> intro _ _) | with_reducible refine' evalPart_none_step ?_ | with_reducible refine' evalPart_some_step ?_ | ((with_reducible refine' r_pow ?q9a ?q9b ?q9c ?q9e ?_); (case q9a | q9b | q9c | q9e => decide); intro _ _ _ _))))
  refine r_slListH (by assumption) hH (by decide) (by with_unfolding_all rfl) (by intro _; with_unfolding_all rfl) (by k_extra "size") fun D h' G => ?_
  have hil : (vs.take 16).length ≤ 16 := by rw [List.length_take]; omega
  refine cmp_list (fun i ys nw => nw = (D, listOf (vs.take 16).toArray 0) :: rest ∧ ∃ ms, IntsAre ys ms ∧ (∀ x ∈ ms, (0 : Int) ≤ x) ∧ ms.length = i) (by decide) rfl rfl (Ar.hd (by assumption)) (vs := vs.take 16) (k := 0) G (by k_extra "size") (fun i ys nw j => by rw [j.1]; exact .head _) ⟨rfl, [], .nil, fun _ h => (nomatch h), rfl⟩ ?_ (endK_none ?_)
  · rintro i v ys nw I oI C oC D m₂ h t hi' hv ⟨rfl, ms, h1, h2, h3⟩ hn hm G
    have hv2 : vs[i]? = some v := by rw [List.getElem?_take] at hv; split at hv; exact hv; cases hv
    have hlt : i < ns.length := by
      rw [← hi.length]
      rcases Nat.lt_or_ge i vs.length with q | q
      · exact q
      · rw [List.getElem?_eq_none q] at hv2; cases hv2
    obtain ⟨c, uc, e1, e2⟩ := ints_get hi i hlt
    rw [hv2] at e1
    cases e1
    (repeat' ((first | k_extra "w" | with_reducible refine' wpAny_Slice ?_ | ((with_reducible refine' r_lc ?q9c ?q9k ?q9n ?q9s ?_); (case q9c | q9k => exact rfl); (case q9n => decide); (case q9s => (intro _; exact rfl))) | ((with_reducible refine' r_gL ?q9G ?q9n ?q9m ?q9v ?q9a ?q9b ?q9c ?_); (case q9G | q9n => assumption); (case q9m => k_extra "mem"); (case q9v => assumption); (case q9a | q9b => exact rfl); (case q9c => decide)) | ((with_reducible refine' r_gB ?q9G ?q9X ?q9e ?q9v ?q9n ?q9g ?q9gb ?q9a ?q9b ?q9c ?_); (case q9G | q9X => assumption); (case q9g | q9gb | q9a | q9b => exact rfl); (case q9e => k_is); (case q9v => boot_fast); (case q9n | q9c => decide)) | (with_reducible refine' r_abs ?_ <;> intro _ _) | with_reducible refine' evalPart_none_step ?_ | with_reducible refine' evalPart_some_step ?_ | ((with_reducible refine' r_pow ?q9a ?q9b ?q9c ?q9e ?_); (case q9a | q9b | q9c | q9e => decide); intro _ _ _ _))))
    rename_i N _ _ hN _ _
    refine r_mod (by k_extra "le") fun u t' => ?_
    exact ⟨_, _, _, rfl, by assumption, rfl, ms ++ [_], ints_snoc h1 _ _, fun x hx => by
      rcases List.mem_append.mp hx with hx | hx
      · exact h2 x hx
      · rw [List.mem_singleton] at hx; rw [hx]; exact Int.emod_nonneg _ (by k_extra "le"), by simp [h3]⟩
  · rintro D' h t ys nw G ⟨rfl, ms, h1, h2, h3⟩
    (repeat' ((first | k_extra "w" | with_reducible refine' wpAny_Slice ?_ | ((with_reducible refine' r_lc ?q9c ?q9k ?q9n ?q9s ?_); (case q9c | q9k => exact rfl); (case q9n => decide); (case q9s => (intro _; exact rfl))) | ((with_reducible refine' r_gL ?q9G ?q9n ?q9m ?q9v ?q9a ?q9b ?q9c ?_); (case q9G | q9n => assumption); (case q9m => k_extra "mem"); (case q9v => assumption); (case q9a | q9b => exact rfl); (case q9c => decide)) | ((with_reducible refine' r_gB ?q9G ?q9X ?q9e ?q9v ?q9n ?q9g ?q9gb ?q9a ?q9b ?q9c ?_); (case q9G | q9X => assumption); (case q9g | q9gb | q9a | q9b => exact rfl); (case q9e => k_is); (case q9v => boot_fast); (case q9n | q9c => decide)) | (with_reducible refine' r_abs ?_ <;> intro _ _) | with_reducible refine' evalPart_none_step ?_ | with_reducible refine' evalPart_some_step ?_ | ((with_reducible refine' r_pow ?q9a ?q9b ?q9c ?q9e ?_); (case q9a | q9b | q9c | q9e => decide); intro _ _ _ _))))
    exact hQ _ _ <| r_backP (by assumption) ⟨D', ys, _, rfl, rfl, ms, h1, h2, by omega⟩ (by k_extra "sel")
end
section
variable {w : World} {p : Program} {loose : List Str} {mean : ExcName → Option Value} {mg mb : Str → Option Value} {rest : List (Addr × Obj)}
theorem cells3 {cm : Str → Option Value} {n1 n2 n3 : Str} {c1 c2 c3 : Addr} {cells : List (Addr × Obj)} (x : CellsAre cm [(n1, c1), (n2, c2), (n3, c3)] cells) : ∃ o1 o2 o3, cells = [(c1, o1), (c2, o2), (c3, o3)] ∧ o1.data = .cell (cm n1) ∧ o2.data = .cell (cm n2) ∧ o3.data = .cell (cm n3) := by
  cases x with | cons h r => obtain ⟨o2, o3, rfl, h2, h3⟩ := r.two; exact ⟨_, o2, o3, rfl, h, h2, h3⟩
noncomputable def bud : Nat → Nat
  | 0 => 2
  | n + 1 => 2 + 7 * bud n
/-- the deck and the table in the ledger -/
structure Dk (w : World) (rest : List (Addr × Obj)) (tb rA nA : Addr) (ds rvs : List Value) (oN : Obj) (kvs : List (Str × Value)) (b : Nat) : Prop where
  deck : Deck ds
  tab : ∃ k t, InsIn (fr.heap_1 w.params) rest tb 513 (obE k t rA nA)
  kd : KD PySem.Challenge.rw_np0072_01.row.toRowW.prog w oN kvs
  ok : TabOk w kvs rest
  low : (nA == sysModules) = false
  rz : rvs.length + b ≤ 1000000
  kz : kvs.length + b ≤ 1000000
noncomputable abbrev DL (dA rA nA : Addr) (ds rvs : List Value) (nd nr : Nat) (oN : Obj) (rest : List (Addr × Obj)) : List (Addr × Obj) := (dA, listOf ds.toArray nd) :: (rA, listOf rvs.toArray nr) :: (nA, oN) :: rest
theorem Dk.mono {tb rA nA : Addr} {ds rvs : List Value} {oN : Obj} {kvs : List (Str × Value)} {b b' : Nat} {rest' : List (Addr × Obj)} (D : Dk w rest tb rA nA ds rvs oN kvs b) (s : ∀ p ∈ rest, p ∈ rest') (hb : b' ≤ b) : Dk w rest' tb rA nA ds rvs oN kvs b' :=
  ⟨D.deck, by obtain ⟨k, t, I⟩ := D.tab; exact ⟨k, t, I.mono s⟩, D.kd, fun x v h => by
    obtain ⟨a, b, c, e, f, g⟩ := D.ok x v h
    exact ⟨a, b, c, e, f, g.mono s⟩, D.low, by have := D.rz; omega, by have := D.kz; omega⟩
noncomputable def MadeAt (w : World) (p : Program) (loose : List Str) (mean : ExcName → Option Value) (mg mb : Str → Option Value) (n dn un : Nat) : Prop :=
  ∀ (rest bs : List (Addr × Obj)) (dA tb rA nA : Addr) (ds rvs : List Value) (nd nr : Nat) (oN : Obj) (kvs : List (Str × Value)) (u : Tok) (e : Nat), (∀ p ∈ bs, p ∈ rest) → Dk w bs tb rA nA ds rvs oN kvs (bud n + e) →
    SP w p loose mean mg mb (.ref 534) [.ref dA, .ref tb, .int (n : Int) u] dn un (DL dA rA nA ds rvs nd nr oN rest) (fun r nw => ∃ L ds' rvs' nd' nr' oN' kvs' d bb, nw = DL dA rA nA ds' rvs' nd' nr' oN' (L ++ rest) ∧ Dk w (L ++ bs) tb rA nA ds' rvs' oN' kvs' e ∧ Rel (fr.heap_1 w.params) (L ++ bs) n bb r d ∧ Ok n d)
end
section
variable {w : World} {p : Program} {loose : List Str} {mean : ExcName → Option Value} {mg mb : Str → Option Value} {rest : List (Addr × Obj)}
theorem rel_of_row {cur bs' L : List (Addr × Obj)} {ys : List Addr} {vs : List Value} {tv : Value} {n : Nat} {ds : List (Dt n)} {dot : Bool} (R : Row cur ys vs tv L) (hne : vs ≠ []) (hlen : ds.length = vs.length) (ht : if dot then ∃ u, tv = .int 7 u else tv = .ref 77) (hsub : ∀ p ∈ bs', p ∈ cur)
    (items : ∀ (i : Nat) (w' : Value) (d : Dt n), vs[i]? = some w' → ds[i]? = some d → ∃ b, Rel (fr.heap_1 w.params) bs' n b w' d) : ∃ bb, Rel (fr.heap_1 w.params) (L ++ bs') (n + 1) bb (atv ys tv 0) (.lst ds dot) := by
  have hl := R.len
  match ys, R, hl with
  | [], R, hl => exact absurd (List.length_eq_zero_iff.mp hl) hne
  | x :: xs, R, hl =>
    refine ⟨x + 1, x, xs, vs, tv, rfl, Nat.lt_succ_self x, R.pw, by rw [hlen, hl], hlen.symm, ht, fun i y hy => ?_, fun i w' d hw hd => ?_⟩
    · obtain ⟨w', k, t, dx, j, a, b, c⟩ := R.cell i y hy
      exact ⟨w', k, t, dx, j, a, List.mem_append_left _ b, List.mem_append_left _ c⟩
    · obtain ⟨b, h⟩ := items i w' d hw hd
      exact (Rel.bound n b w' d (fun p hp => R.up x (.head _) p (hsub p hp)) h).mono fun p hp => List.mem_append_right _ hp
noncomputable def atS : (n : Nat) → Sy → Dt n
  | 0, s => At.sym s
  | _ + 1, s => .at (.sym s)
theorem rel_atS {n : Nat} {s : Sy} {news : List (Addr × Obj)} {b : Addr} {v : Value} (h : RelAt (fr.heap_1 w.params) news v (.sym s)) : Rel (fr.heap_1 w.params) news n b v (atS n s) := by
  cases n with
  | zero => exact h
  | succ n => exact h
theorem ok_atS {n : Nat} {s : Sy} : Ok n (atS n s) := by
  cases n with
  | zero => trivial
  | succ n => trivial
noncomputable def wordOf (c : Int) : Sy := if c = 0 then .quote else if c = 1 then .func else .splice
theorem word_get {c : Int} (h0 : 0 ≤ c) (h3 : c < 3) (a b d : Tok) : ([.str (Str.ofString "quote") a, .str (Str.ofString "function") b, .str (Str.ofString ",@") d] : List Value)[c.toNat]? = some (.str (wordOf c).name (if c = 0 then a else if c = 1 then b else d)) := by
  have hcc : c = 0 ∨ c = 1 ∨ c = 2 := by omega
  rcases hcc with rfl | rfl | rfl <;> rfl
theorem snoc_get {α : Type} {xs : List α} {x y : α} {j : Nat} (h : (xs ++ [x])[j]? = some y) : xs[j]? = some y ∨ (j = xs.length ∧ y = x) := by
  rcases Nat.lt_or_ge j xs.length with q | q
  · rw [List.getElem?_append_left q] at h; exact .inl h
  · rw [List.getElem?_append_right q] at h
    rcases Nat.eq_zero_or_pos (j - xs.length) with z | z
    · rw [z] at h; cases h; exact .inr ⟨by omega, rfl⟩
    · rw [List.getElem?_eq_none (by simp; omega)] at h; cases h
noncomputable def atA : (n : Nat) → At → Dt n
  | 0, a => a
  | _ + 1, a => .at a
theorem rel_atA {n : Nat} {a : At} {news : List (Addr × Obj)} {b : Addr} {v : Value} (h : RelAt (fr.heap_1 w.params) news v a) : Rel (fr.heap_1 w.params) news n b v (atA n a) := by
  cases n with
  | zero => exact h
  | succ n => exact h
theorem ok_atA {n : Nat} {a : At} : Ok n (atA n a) := by
  cases n with
  | zero => trivial
  | succ n => trivial
theorem bud_pos (n : Nat) : 2 ≤ bud n := by
  cases n with
  | zero => exact Nat.le_refl _
  | succ n => exact Nat.le_add_right _ _
theorem made_any {N dn un : Nat} (hdn : 40 ≤ dn) (hun : 200 ≤ un) (M : ∀ n, N = n + 1 → MadeAt w p loose mean mg mb n dn un) : MadeAt w p loose mean mg mb N (dn + 1) (un + 3) := by
  intro rest bs dA tb rA nA ds rvs nd nr oN kvs u e hbs D
  unfold SP
  k_fill
  refine' Sp.defX (fun L => [(Str.ofString "deep", L + 3), (Str.ofString "table", L + 2), (Str.ofString "deck", L + 1)]) ?ho ?hcd ?hb ?hl ?hn ?hp ?h1 ?h2 ?h3 ?hcl ?_
  (((case ho | hcd => k_is); (case hb => first | exact fun _ _ => BindsTo.of_eq (binds := [(_, _)]) rfl | exact fun _ _ => BindsTo.of_eq (binds := [(_, _), (_, _)]) rfl | exact fun _ _ => BindsTo.of_eq (binds := [(_, _), (_, _), (_, _)]) rfl | exact fun _ _ => BindsTo.of_eq (binds := [(_, _), (_, _), (_, _), (_, _)]) rfl | exact fun _ _ => BindsTo.of_eq rfl); (case hl => exact rfl); (case hn => decide); (case hp => first | exact fun n => hap3 n | exact fun n => hap4 n); (case h1 | h2 | h3 => exact rfl); (case hcl => exact fun _ => rfl)))
  intro A outer A₀ base h₀ h L g d t os cells hA X hcells G
  refine wpAny_hide fun Q9 hQ => ?_
  obtain ⟨o1, o2, o3, rfl, hc1, hc2, hc3⟩ := cells3 hcells
  simp only [List.cons_append, List.nil_append] at G
  replace hc1 : o1.data = .cell (some (.int ((N : Nat) : Int) u)) := hc1
  replace hc2 : o2.data = .cell (some (.ref tb)) := hc2
  replace hc3 : o3.data = .cell (some (.ref dA)) := hc3
  refine Lg.hide0 G fun m0 G0 => ?_
  clear G
  have G1 : Lg h₀ L h m0 (DL dA rA nA ds rvs nd nr oN ((L + 3, o1) :: (L + 2, o2) :: (L + 1, o3) :: rest)) := Lg.sel G0 (by k_extra "sel")
  clear G0
  (repeat' ((first | k_extra "w" | ((with_reducible refine' r_nameC ?q9G ?q9v ?q9m ?q9o ?q9a ?q9b ?q9c ?_); (case q9G => assumption); (case q9v | q9a | q9b => exact rfl); (case q9m => k_extra "mem"); (case q9o => first | assumption | exact rfl); (case q9c => decide)) | with_reducible refine' UnaryOp_ ?_ | ((with_reducible refine' r_gK ?q9G ?q9X ?q9e ?q9g ?q9a ?q9b ?q9c ?_); (case q9G | q9X => assumption); (case q9g | q9a | q9b => exact rfl); (case q9e => k_is); (case q9c => decide)) | ((with_reducible refine' r_gC ?q9G ?q9v ?q9m ?q9o ?q9a ?q9b ?q9c ?_); (case q9G => assumption); (case q9v | q9a | q9b => exact rfl); (case q9m => k_extra "mem"); (case q9o => first | assumption | exact rfl); (case q9c => decide)) | ((with_reducible refine' r_alc ?q9w ?q9c ?q9k ?q9n ?q9s ?_); (case q9w | q9c | q9k => exact rfl); (case q9n => decide); (case q9s => (intro _; exact rfl))) | with_reducible refine isTrue_or_nil ?_ | ((with_reducible refine' r_range1 ?q9G ?_); (case q9G => assumption); intro _ _ _ _ _ _) | (with_reducible refine' r_sub ?_ <;> intro _ _) | (with_reducible refine' r_neg ?_ <;> intro _ _))))
  refine cal (by assumption) (sp_draw (by decide) (by decide) D.deck) ?_ (h1 := by k_extra "le") (h2 := by k_extra "le")
  rintro v nw h' t' ⟨way, u1, rfl, w0, w1, ds1, nd1, rfl, D1⟩ G
  (repeat' ((((fail_if_success (with_reducible refine r_stopB ?_)); (fail_if_success (with_reducible refine r_stopE ?_)); (first | k_extra "w" | ((with_reducible refine' r_nameC ?q9G ?q9v ?q9m ?q9o ?q9a ?q9b ?q9c ?_); (case q9G => assumption); (case q9v | q9a | q9b => exact rfl); (case q9m => k_extra "mem"); (case q9o => first | assumption | exact rfl); (case q9c => decide)) | with_reducible refine' UnaryOp_ ?_ | ((with_reducible refine' r_gK ?q9G ?q9X ?q9e ?q9g ?q9a ?q9b ?q9c ?_); (case q9G | q9X => assumption); (case q9g | q9a | q9b => exact rfl); (case q9e => k_is); (case q9c => decide)) | ((with_reducible refine' r_gC ?q9G ?q9v ?q9m ?q9o ?q9a ?q9b ?q9c ?_); (case q9G => assumption); (case q9v | q9a | q9b => exact rfl); (case q9m => k_extra "mem"); (case q9o => first | assumption | exact rfl); (case q9c => decide)) | ((with_reducible refine' r_alc ?q9w ?q9c ?q9k ?q9n ?q9s ?_); (case q9w | q9c | q9k => exact rfl); (case q9n => decide); (case q9s => (intro _; exact rfl))) | with_reducible refine isTrue_or_nil ?_ | ((with_reducible refine' r_range1 ?q9G ?_); (case q9G => assumption); intro _ _ _ _ _ _) | (with_reducible refine' r_sub ?_ <;> intro _ _) | (with_reducible refine' r_neg ?_ <;> intro _ _))))))
  by_cases w0' : N = 0 ∨ way = 0
  · (first | k_extra "w" | ((with_reducible refine' r_nameC ?q9G ?q9v ?q9m ?q9o ?q9a ?q9b ?q9c ?_); (case q9G => assumption); (case q9v | q9a | q9b => exact rfl); (case q9m => k_extra "mem"); (case q9o => first | assumption | exact rfl); (case q9c => decide)) | with_reducible refine' UnaryOp_ ?_ | ((with_reducible refine' r_gK ?q9G ?q9X ?q9e ?q9g ?q9a ?q9b ?q9c ?_); (case q9G | q9X => assumption); (case q9g | q9a | q9b => exact rfl); (case q9e => k_is); (case q9c => decide)) | ((with_reducible refine' r_gC ?q9G ?q9v ?q9m ?q9o ?q9a ?q9b ?q9c ?_); (case q9G => assumption); (case q9v | q9a | q9b => exact rfl); (case q9m => k_extra "mem"); (case q9o => first | assumption | exact rfl); (case q9c => decide)) | ((with_reducible refine' r_alc ?q9w ?q9c ?q9k ?q9n ?q9s ?_); (case q9w | q9c | q9k => exact rfl); (case q9n => decide); (case q9s => (intro _; exact rfl))) | with_reducible refine isTrue_or_nil ?_ | ((with_reducible refine' r_range1 ?q9G ?_); (case q9G => assumption); intro _ _ _ _ _ _) | (with_reducible refine' r_sub ?_ <;> intro _ _) | (with_reducible refine' r_neg ?_ <;> intro _ _))
    refine cutB true (by assumption) ?_ ?_
    · intro BQ hBQ
      by_cases hN : N = 0
      · (repeat' ((first | k_extra "w" | ((with_reducible refine' r_nameC ?q9G ?q9v ?q9m ?q9o ?q9a ?q9b ?q9c ?_); (case q9G => assumption); (case q9v | q9a | q9b => exact rfl); (case q9m => k_extra "mem"); (case q9o => first | assumption | exact rfl); (case q9c => decide)) | with_reducible refine' UnaryOp_ ?_ | ((with_reducible refine' r_gK ?q9G ?q9X ?q9e ?q9g ?q9a ?q9b ?q9c ?_); (case q9G | q9X => assumption); (case q9g | q9a | q9b => exact rfl); (case q9e => k_is); (case q9c => decide)) | ((with_reducible refine' r_gC ?q9G ?q9v ?q9m ?q9o ?q9a ?q9b ?q9c ?_); (case q9G => assumption); (case q9v | q9a | q9b => exact rfl); (case q9m => k_extra "mem"); (case q9o => first | assumption | exact rfl); (case q9c => decide)) | ((with_reducible refine' r_alc ?q9w ?q9c ?q9k ?q9n ?q9s ?_); (case q9w | q9c | q9k => exact rfl); (case q9n => decide); (case q9s => (intro _; exact rfl))) | with_reducible refine isTrue_or_nil ?_ | ((with_reducible refine' r_range1 ?q9G ?_); (case q9G => assumption); intro _ _ _ _ _ _) | (with_reducible refine' r_sub ?_ <;> intro _ _) | (with_reducible refine' r_neg ?_ <;> intro _ _))))
        exact hBQ _ _ (by assumption)
      · have w00 : way = 0 := w0'.resolve_left hN
        (repeat' ((first | k_extra "w" | ((with_reducible refine' r_nameC ?q9G ?q9v ?q9m ?q9o ?q9a ?q9b ?q9c ?_); (case q9G => assumption); (case q9v | q9a | q9b => exact rfl); (case q9m => k_extra "mem"); (case q9o => first | assumption | exact rfl); (case q9c => decide)) | with_reducible refine' UnaryOp_ ?_ | ((with_reducible refine' r_gK ?q9G ?q9X ?q9e ?q9g ?q9a ?q9b ?q9c ?_); (case q9G | q9X => assumption); (case q9g | q9a | q9b => exact rfl); (case q9e => k_is); (case q9c => decide)) | ((with_reducible refine' r_gC ?q9G ?q9v ?q9m ?q9o ?q9a ?q9b ?q9c ?_); (case q9G => assumption); (case q9v | q9a | q9b => exact rfl); (case q9m => k_extra "mem"); (case q9o => first | assumption | exact rfl); (case q9c => decide)) | ((with_reducible refine' r_alc ?q9w ?q9c ?q9k ?q9n ?q9s ?_); (case q9w | q9c | q9k => exact rfl); (case q9n => decide); (case q9s => (intro _; exact rfl))) | with_reducible refine isTrue_or_nil ?_ | ((with_reducible refine' r_range1 ?q9G ?_); (case q9G => assumption); intro _ _ _ _ _ _) | (with_reducible refine' r_sub ?_ <;> intro _ _) | (with_reducible refine' r_neg ?_ <;> intro _ _))))
        exact hBQ _ _ (by assumption)
    intro h' t' G
    (repeat' ((first | k_extra "w" | ((with_reducible refine' r_nameC ?q9G ?q9v ?q9m ?q9o ?q9a ?q9b ?q9c ?_); (case q9G => assumption); (case q9v | q9a | q9b => exact rfl); (case q9m => k_extra "mem"); (case q9o => first | assumption | exact rfl); (case q9c => decide)) | with_reducible refine' UnaryOp_ ?_ | ((with_reducible refine' r_gK ?q9G ?q9X ?q9e ?q9g ?q9a ?q9b ?q9c ?_); (case q9G | q9X => assumption); (case q9g | q9a | q9b => exact rfl); (case q9e => k_is); (case q9c => decide)) | ((with_reducible refine' r_gC ?q9G ?q9v ?q9m ?q9o ?q9a ?q9b ?q9c ?_); (case q9G => assumption); (case q9v | q9a | q9b => exact rfl); (case q9m => k_extra "mem"); (case q9o => first | assumption | exact rfl); (case q9c => decide)) | ((with_reducible refine' r_alc ?q9w ?q9c ?q9k ?q9n ?q9s ?_); (case q9w | q9c | q9k => exact rfl); (case q9n => decide); (case q9s => (intro _; exact rfl))) | with_reducible refine isTrue_or_nil ?_ | ((with_reducible refine' r_range1 ?q9G ?_); (case q9G => assumption); intro _ _ _ _ _ _) | (with_reducible refine' r_sub ?_ <;> intro _ _) | (with_reducible refine' r_neg ?_ <;> intro _ _))))
    obtain ⟨k9, t9, It⟩ := D.tab
    have It2 := It.mono hbs
    (repeat' ((first | k_extra "w" | ((with_reducible refine' r_nameC ?q9G ?q9v ?q9m ?q9o ?q9a ?q9b ?q9c ?_); (case q9G => assumption); (case q9v | q9a | q9b => exact rfl); (case q9m => k_extra "mem"); (case q9o => first | assumption | exact rfl); (case q9c => decide)) | with_reducible refine' UnaryOp_ ?_ | ((with_reducible refine' r_gK ?q9G ?q9X ?q9e ?q9g ?q9a ?q9b ?q9c ?_); (case q9G | q9X => assumption); (case q9g | q9a | q9b => exact rfl); (case q9e => k_is); (case q9c => decide)) | ((with_reducible refine' r_gC ?q9G ?q9v ?q9m ?q9o ?q9a ?q9b ?q9c ?_); (case q9G => assumption); (case q9v | q9a | q9b => exact rfl); (case q9m => k_extra "mem"); (case q9o => first | assumption | exact rfl); (case q9c => decide)) | ((with_reducible refine' r_alc ?q9w ?q9c ?q9k ?q9n ?q9s ?_); (case q9w | q9c | q9k => exact rfl); (case q9n => decide); (case q9s => (intro _; exact rfl))) | with_reducible refine isTrue_or_nil ?_ | ((with_reducible refine' r_range1 ?q9G ?_); (case q9G => assumption); intro _ _ _ _ _ _) | (with_reducible refine' r_sub ?_ <;> intro _ _) | (with_reducible refine' r_neg ?_ <;> intro _ _))))
    refine cal (news := (rA, listOf rvs.toArray nr) :: (nA, oN) :: (dA, listOf ds1.toArray nd1) :: (L + 3, o1) :: (L + 2, o2) :: (L + 1, o3) :: rest) (Lg.sel (by assumption) (by k_extra "sel"))
      (sp_intern (bs := bs) (fun p hp => .tail _ (.tail _ (.tail _ (.tail _ (hbs p hp))))) It (Nat.le_trans (Nat.le_add_right _ _) D.rz) D.kd (Nat.le_trans (Nat.le_add_right _ _) D.kz) D.ok D.low) ?_ (h1 := by k_extra "le") (h2 := by k_extra "le")
    rintro v nw h' t' ⟨sx, L9, rvs', nr', oN', kvs', rfl, rfl, hr, hk, hkd, hok, k8, t8, num8, S⟩ G
    (repeat' ((first | k_extra "w" | ((with_reducible refine' r_nameC ?q9G ?q9v ?q9m ?q9o ?q9a ?q9b ?q9c ?_); (case q9G => assumption); (case q9v | q9a | q9b => exact rfl); (case q9m => k_extra "mem"); (case q9o => first | assumption | exact rfl); (case q9c => decide)) | with_reducible refine' UnaryOp_ ?_ | ((with_reducible refine' r_gK ?q9G ?q9X ?q9e ?q9g ?q9a ?q9b ?q9c ?_); (case q9G | q9X => assumption); (case q9g | q9a | q9b => exact rfl); (case q9e => k_is); (case q9c => decide)) | ((with_reducible refine' r_gC ?q9G ?q9v ?q9m ?q9o ?q9a ?q9b ?q9c ?_); (case q9G => assumption); (case q9v | q9a | q9b => exact rfl); (case q9m => k_extra "mem"); (case q9o => first | assumption | exact rfl); (case q9c => decide)) | ((with_reducible refine' r_alc ?q9w ?q9c ?q9k ?q9n ?q9s ?_); (case q9w | q9c | q9k => exact rfl); (case q9n => decide); (case q9s => (intro _; exact rfl))) | with_reducible refine isTrue_or_nil ?_ | ((with_reducible refine' r_range1 ?q9G ?_); (case q9G => assumption); intro _ _ _ _ _ _) | (with_reducible refine' r_sub ?_ <;> intro _ _) | (with_reducible refine' r_neg ?_ <;> intro _ _))))
    rename_i l _ _ _ _
    refine cal (news := (dA, listOf ds1.toArray nd1) :: (l, listOf #[.int 5 _, .ref sx, .ref 77, .int (-3) _] 0) :: (rA, listOf rvs'.toArray nr') :: (nA, oN') :: (L9 ++ (L + 3, o1) :: (L + 2, o2) :: (L + 1, o3) :: rest)) (Lg.sel (by assumption) (by k_extra "sel"))
      (sp_draw (by decide) (by decide) D1) ?_ (h1 := by k_extra "le") (h2 := by k_extra "le")
    rintro v nw h' t' ⟨c, u2, rfl, c0, c1, ds2, nd2, rfl, D2⟩ G
    have fin : ∀ v (a : At), RelAt (fr.heap_1 w.params) (L9 ++ bs) v a → (∃ L' ds' rvs2 nd' nr2 oN2 kvs2, ∃ d : Dt N, ∃ bb, DL dA rA nA ds2 rvs' nd2 nr' oN' (L9 ++ rest) = DL dA rA nA ds' rvs2 nd' nr2 oN2 (L' ++ rest) ∧ Dk w (L' ++ bs) tb rA nA ds' rvs2 oN2 kvs2 e ∧ Rel (fr.heap_1 w.params) (L' ++ bs) N bb v d ∧ Ok N d) :=
      fun v a R => ⟨L9, ds2, rvs', nd2, nr', oN', kvs', atA N a, 0, rfl, ⟨D2, ⟨k9, t9, It.mono fun p hp => List.mem_append_right _ hp⟩, hkd, hok, D.low, by have := D.rz; have := bud_pos N; omega, by have := D.kz; have := bud_pos N; omega⟩, rel_atA R, ok_atA⟩
    have hcc : c = 0 ∨ c = 1 ∨ c = 2 ∨ c = 3 := by omega
    rcases hcc with rfl | rfl | rfl | rfl
    · refine r_item (by assumption) (by k_extra "mem") (by decide) (by decide) (v := .int 5 _) rfl (by with_unfolding_all rfl) ?_
      (repeat' ((first | k_extra "w" | ((with_reducible refine' r_nameC ?q9G ?q9v ?q9m ?q9o ?q9a ?q9b ?q9c ?_); (case q9G => assumption); (case q9v | q9a | q9b => exact rfl); (case q9m => k_extra "mem"); (case q9o => first | assumption | exact rfl); (case q9c => decide)) | with_reducible refine' UnaryOp_ ?_ | ((with_reducible refine' r_gK ?q9G ?q9X ?q9e ?q9g ?q9a ?q9b ?q9c ?_); (case q9G | q9X => assumption); (case q9g | q9a | q9b => exact rfl); (case q9e => k_is); (case q9c => decide)) | ((with_reducible refine' r_gC ?q9G ?q9v ?q9m ?q9o ?q9a ?q9b ?q9c ?_); (case q9G => assumption); (case q9v | q9a | q9b => exact rfl); (case q9m => k_extra "mem"); (case q9o => first | assumption | exact rfl); (case q9c => decide)) | ((with_reducible refine' r_alc ?q9w ?q9c ?q9k ?q9n ?q9s ?_); (case q9w | q9c | q9k => exact rfl); (case q9n => decide); (case q9s => (intro _; exact rfl))) | with_reducible refine isTrue_or_nil ?_ | ((with_reducible refine' r_range1 ?q9G ?_); (case q9G => assumption); intro _ _ _ _ _ _) | (with_reducible refine' r_sub ?_ <;> intro _ _) | (with_reducible refine' r_neg ?_ <;> intro _ _))))
      exact hQ _ _ <| r_backP (by assumption) (fin _ .five ⟨_, rfl⟩) (by k_extra "sel")
    · refine r_item (by assumption) (by k_extra "mem") (by decide) (by decide) (v := .ref sx) rfl (by with_unfolding_all rfl) ?_
      (repeat' ((first | k_extra "w" | ((with_reducible refine' r_nameC ?q9G ?q9v ?q9m ?q9o ?q9a ?q9b ?q9c ?_); (case q9G => assumption); (case q9v | q9a | q9b => exact rfl); (case q9m => k_extra "mem"); (case q9o => first | assumption | exact rfl); (case q9c => decide)) | with_reducible refine' UnaryOp_ ?_ | ((with_reducible refine' r_gK ?q9G ?q9X ?q9e ?q9g ?q9a ?q9b ?q9c ?_); (case q9G | q9X => assumption); (case q9g | q9a | q9b => exact rfl); (case q9e => k_is); (case q9c => decide)) | ((with_reducible refine' r_gC ?q9G ?q9v ?q9m ?q9o ?q9a ?q9b ?q9c ?_); (case q9G => assumption); (case q9v | q9a | q9b => exact rfl); (case q9m => k_extra "mem"); (case q9o => first | assumption | exact rfl); (case q9c => decide)) | ((with_reducible refine' r_alc ?q9w ?q9c ?q9k ?q9n ?q9s ?_); (case q9w | q9c | q9k => exact rfl); (case q9n => decide); (case q9s => (intro _; exact rfl))) | with_reducible refine isTrue_or_nil ?_ | ((with_reducible refine' r_range1 ?q9G ?_); (case q9G => assumption); intro _ _ _ _ _ _) | (with_reducible refine' r_sub ?_ <;> intro _ _) | (with_reducible refine' r_neg ?_ <;> intro _ _))))
      exact hQ _ _ <| r_backP (by assumption) (fin _ (.sym .a) ⟨sx, k8, t8, num8, rfl, S⟩) (by k_extra "sel")
    · refine r_item (by assumption) (by k_extra "mem") (by decide) (by decide) (v := .ref 77) rfl (by with_unfolding_all rfl) ?_
      (repeat' ((first | k_extra "w" | ((with_reducible refine' r_nameC ?q9G ?q9v ?q9m ?q9o ?q9a ?q9b ?q9c ?_); (case q9G => assumption); (case q9v | q9a | q9b => exact rfl); (case q9m => k_extra "mem"); (case q9o => first | assumption | exact rfl); (case q9c => decide)) | with_reducible refine' UnaryOp_ ?_ | ((with_reducible refine' r_gK ?q9G ?q9X ?q9e ?q9g ?q9a ?q9b ?q9c ?_); (case q9G | q9X => assumption); (case q9g | q9a | q9b => exact rfl); (case q9e => k_is); (case q9c => decide)) | ((with_reducible refine' r_gC ?q9G ?q9v ?q9m ?q9o ?q9a ?q9b ?q9c ?_); (case q9G => assumption); (case q9v | q9a | q9b => exact rfl); (case q9m => k_extra "mem"); (case q9o => first | assumption | exact rfl); (case q9c => decide)) | ((with_reducible refine' r_alc ?q9w ?q9c ?q9k ?q9n ?q9s ?_); (case q9w | q9c | q9k => exact rfl); (case q9n => decide); (case q9s => (intro _; exact rfl))) | with_reducible refine isTrue_or_nil ?_ | ((with_reducible refine' r_range1 ?q9G ?_); (case q9G => assumption); intro _ _ _ _ _ _) | (with_reducible refine' r_sub ?_ <;> intro _ _) | (with_reducible refine' r_neg ?_ <;> intro _ _))))
      exact hQ _ _ <| r_backP (by assumption) (fin _ (.sym .nil) (by obtain ⟨k7, t7, N⟩ := nil_in (w := w) (news := L9 ++ bs); exact ⟨77, k7, t7, 0, rfl, N⟩)) (by k_extra "sel")
    · refine r_item (by assumption) (by k_extra "mem") (by decide) (by decide) (v := .int (-3) _) rfl (by with_unfolding_all rfl) ?_
      (repeat' ((first | k_extra "w" | ((with_reducible refine' r_nameC ?q9G ?q9v ?q9m ?q9o ?q9a ?q9b ?q9c ?_); (case q9G => assumption); (case q9v | q9a | q9b => exact rfl); (case q9m => k_extra "mem"); (case q9o => first | assumption | exact rfl); (case q9c => decide)) | with_reducible refine' UnaryOp_ ?_ | ((with_reducible refine' r_gK ?q9G ?q9X ?q9e ?q9g ?q9a ?q9b ?q9c ?_); (case q9G | q9X => assumption); (case q9g | q9a | q9b => exact rfl); (case q9e => k_is); (case q9c => decide)) | ((with_reducible refine' r_gC ?q9G ?q9v ?q9m ?q9o ?q9a ?q9b ?q9c ?_); (case q9G => assumption); (case q9v | q9a | q9b => exact rfl); (case q9m => k_extra "mem"); (case q9o => first | assumption | exact rfl); (case q9c => decide)) | ((with_reducible refine' r_alc ?q9w ?q9c ?q9k ?q9n ?q9s ?_); (case q9w | q9c | q9k => exact rfl); (case q9n => decide); (case q9s => (intro _; exact rfl))) | with_reducible refine isTrue_or_nil ?_ | ((with_reducible refine' r_range1 ?q9G ?_); (case q9G => assumption); intro _ _ _ _ _ _) | (with_reducible refine' r_sub ?_ <;> intro _ _) | (with_reducible refine' r_neg ?_ <;> intro _ _))))
      exact hQ _ _ <| r_backP (by assumption) (fin _ .three ⟨_, rfl⟩) (by k_extra "sel")
  · have w0n : ¬ N = 0 := fun z => w0' (.inl z)
    have w0w : ¬ way = 0 := fun z => w0' (.inr z)
    obtain ⟨n, rfl⟩ : ∃ n, N = n + 1 := ⟨N - 1, by omega⟩
    have M := M n rfl
    (repeat' ((first | k_extra "w" | ((with_reducible refine' r_nameC ?q9G ?q9v ?q9m ?q9o ?q9a ?q9b ?q9c ?_); (case q9G => assumption); (case q9v | q9a | q9b => exact rfl); (case q9m => k_extra "mem"); (case q9o => first | assumption | exact rfl); (case q9c => decide)) | with_reducible refine' UnaryOp_ ?_ | ((with_reducible refine' r_gK ?q9G ?q9X ?q9e ?q9g ?q9a ?q9b ?q9c ?_); (case q9G | q9X => assumption); (case q9g | q9a | q9b => exact rfl); (case q9e => k_is); (case q9c => decide)) | ((with_reducible refine' r_gC ?q9G ?q9v ?q9m ?q9o ?q9a ?q9b ?q9c ?_); (case q9G => assumption); (case q9v | q9a | q9b => exact rfl); (case q9m => k_extra "mem"); (case q9o => first | assumption | exact rfl); (case q9c => decide)) | ((with_reducible refine' r_alc ?q9w ?q9c ?q9k ?q9n ?q9s ?_); (case q9w | q9c | q9k => exact rfl); (case q9n => decide); (case q9s => (intro _; exact rfl))) | with_reducible refine isTrue_or_nil ?_ | ((with_reducible refine' r_range1 ?q9G ?_); (case q9G => assumption); intro _ _ _ _ _ _) | (with_reducible refine' r_sub ?_ <;> intro _ _) | (with_reducible refine' r_neg ?_ <;> intro _ _))))
    by_cases w1' : way = 1
    · subst w1'
      (repeat' ((first | k_extra "w" | ((with_reducible refine' r_nameC ?q9G ?q9v ?q9m ?q9o ?q9a ?q9b ?q9c ?_); (case q9G => assumption); (case q9v | q9a | q9b => exact rfl); (case q9m => k_extra "mem"); (case q9o => first | assumption | exact rfl); (case q9c => decide)) | with_reducible refine' UnaryOp_ ?_ | ((with_reducible refine' r_gK ?q9G ?q9X ?q9e ?q9g ?q9a ?q9b ?q9c ?_); (case q9G | q9X => assumption); (case q9g | q9a | q9b => exact rfl); (case q9e => k_is); (case q9c => decide)) | ((with_reducible refine' r_gC ?q9G ?q9v ?q9m ?q9o ?q9a ?q9b ?q9c ?_); (case q9G => assumption); (case q9v | q9a | q9b => exact rfl); (case q9m => k_extra "mem"); (case q9o => first | assumption | exact rfl); (case q9c => decide)) | ((with_reducible refine' r_alc ?q9w ?q9c ?q9k ?q9n ?q9s ?_); (case q9w | q9c | q9k => exact rfl); (case q9n => decide); (case q9s => (intro _; exact rfl))) | with_reducible refine isTrue_or_nil ?_ | ((with_reducible refine' r_range1 ?q9G ?_); (case q9G => assumption); intro _ _ _ _ _ _) | (with_reducible refine' r_sub ?_ <;> intro _ _) | (with_reducible refine' r_neg ?_ <;> intro _ _))))
      rename_i l _ _ _ _
      refine cal (news := (dA, listOf ds1.toArray nd1) :: (l, listOf #[.str (Str.ofString "quote") _, .str (Str.ofString "function") _, .str (Str.ofString ",@") _] 0) :: (rA, listOf rvs.toArray nr) :: (nA, oN) :: (L + 3, o1) :: (L + 2, o2) :: (L + 1, o3) :: rest) (Lg.sel (by assumption) (by k_extra "sel"))
        (sp_draw (by decide) (by decide) D1) ?_ (h1 := by k_extra "le") (h2 := by k_extra "le")
      rintro v nw h' t' ⟨c, u2, rfl, c0, c3, ds2, nd2, rfl, D2⟩ G
      refine r_item (by assumption) (by k_extra "mem") c0 (by k_extra "le") (word_get c0 c3 _ _ _) (by with_unfolding_all rfl) ?_
      obtain ⟨k9, t9, It⟩ := D.tab
      have It2 := It.mono hbs
      (repeat' ((first | k_extra "w" | ((with_reducible refine' r_nameC ?q9G ?q9v ?q9m ?q9o ?q9a ?q9b ?q9c ?_); (case q9G => assumption); (case q9v | q9a | q9b => exact rfl); (case q9m => k_extra "mem"); (case q9o => first | assumption | exact rfl); (case q9c => decide)) | with_reducible refine' UnaryOp_ ?_ | ((with_reducible refine' r_gK ?q9G ?q9X ?q9e ?q9g ?q9a ?q9b ?q9c ?_); (case q9G | q9X => assumption); (case q9g | q9a | q9b => exact rfl); (case q9e => k_is); (case q9c => decide)) | ((with_reducible refine' r_gC ?q9G ?q9v ?q9m ?q9o ?q9a ?q9b ?q9c ?_); (case q9G => assumption); (case q9v | q9a | q9b => exact rfl); (case q9m => k_extra "mem"); (case q9o => first | assumption | exact rfl); (case q9c => decide)) | ((with_reducible refine' r_alc ?q9w ?q9c ?q9k ?q9n ?q9s ?_); (case q9w | q9c | q9k => exact rfl); (case q9n => decide); (case q9s => (intro _; exact rfl))) | with_reducible refine isTrue_or_nil ?_ | ((with_reducible refine' r_range1 ?q9G ?_); (case q9G => assumption); intro _ _ _ _ _ _) | (with_reducible refine' r_sub ?_ <;> intro _ _) | (with_reducible refine' r_neg ?_ <;> intro _ _))))
      refine cal (news := (rA, listOf rvs.toArray nr) :: (nA, oN) :: (dA, listOf ds2.toArray nd2) :: (L + 3, o1) :: (L + 2, o2) :: (L + 1, o3) :: rest) (Lg.sel (by assumption) (by k_extra "sel"))
        (sp_intern (bs := bs) (fun p hp => .tail _ (.tail _ (.tail _ (.tail _ (hbs p hp))))) It (Nat.le_trans (Nat.le_add_right _ _) D.rz) D.kd (Nat.le_trans (Nat.le_add_right _ _) D.kz) D.ok D.low) ?_ (h1 := by k_extra "le") (h2 := by k_extra "le")
      rintro v nw h' t' ⟨sx, L9, rvs', nr', oN', kvs', rfl, rfl, hr, hk, hkd, hok, k8, t8, num8, S⟩ G
      (repeat' ((first | k_extra "w" | ((with_reducible refine' r_nameC ?q9G ?q9v ?q9m ?q9o ?q9a ?q9b ?q9c ?_); (case q9G => assumption); (case q9v | q9a | q9b => exact rfl); (case q9m => k_extra "mem"); (case q9o => first | assumption | exact rfl); (case q9c => decide)) | with_reducible refine' UnaryOp_ ?_ | ((with_reducible refine' r_gK ?q9G ?q9X ?q9e ?q9g ?q9a ?q9b ?q9c ?_); (case q9G | q9X => assumption); (case q9g | q9a | q9b => exact rfl); (case q9e => k_is); (case q9c => decide)) | ((with_reducible refine' r_gC ?q9G ?q9v ?q9m ?q9o ?q9a ?q9b ?q9c ?_); (case q9G => assumption); (case q9v | q9a | q9b => exact rfl); (case q9m => k_extra "mem"); (case q9o => first | assumption | exact rfl); (case q9c => decide)) | ((with_reducible refine' r_alc ?q9w ?q9c ?q9k ?q9n ?q9s ?_); (case q9w | q9c | q9k => exact rfl); (case q9n => decide); (case q9s => (intro _; exact rfl))) | with_reducible refine isTrue_or_nil ?_ | ((with_reducible refine' r_range1 ?q9G ?_); (case q9G => assumption); intro _ _ _ _ _ _) | (with_reducible refine' r_sub ?_ <;> intro _ _) | (with_reducible refine' r_neg ?_ <;> intro _ _))))
      have e1 : ((n + 1 : Nat) : Int) - 1 = (n : Int) := by omega
      rw [e1]
      have hb2 : ∀ p ∈ L9 ++ bs, p ∈ L9 ++ (L + 3, o1) :: (L + 2, o2) :: (L + 1, o3) :: rest := fun p hp => by
        rcases List.mem_append.mp hp with hp | hp
        · exact List.mem_append_left _ hp
        · exact List.mem_append_right _ (.tail _ (.tail _ (.tail _ (hbs p hp))))
      have D3 : Dk w (L9 ++ bs) tb rA nA ds2 rvs' oN' kvs' (bud n + e) := ⟨D2, ⟨k9, t9, It.mono fun p hp => List.mem_append_right _ hp⟩, hkd, hok, D.low, by have := D.rz; unfold bud at this; omega, by have := D.kz; unfold bud at this; omega⟩
      refine cal (Lg.sel (by assumption) (by k_extra "sel")) (M (L9 ++ (L + 3, o1) :: (L + 2, o2) :: (L + 1, o3) :: rest) (L9 ++ bs) dA tb rA nA ds2 rvs' nd2 nr' oN' kvs' _ e hb2 D3) ?_ (h1 := by k_extra "le") (h2 := by k_extra "le")
      rintro v nw h' t' ⟨L10, ds3, rvs3, nd3, nr3, oN3, kvs3, d9, bb, rfl, D4, R4, ok4⟩ G
      (repeat' ((first | k_extra "w" | ((with_reducible refine' r_nameC ?q9G ?q9v ?q9m ?q9o ?q9a ?q9b ?q9c ?_); (case q9G => assumption); (case q9v | q9a | q9b => exact rfl); (case q9m => k_extra "mem"); (case q9o => first | assumption | exact rfl); (case q9c => decide)) | with_reducible refine' UnaryOp_ ?_ | ((with_reducible refine' r_gK ?q9G ?q9X ?q9e ?q9g ?q9a ?q9b ?q9c ?_); (case q9G | q9X => assumption); (case q9g | q9a | q9b => exact rfl); (case q9e => k_is); (case q9c => decide)) | ((with_reducible refine' r_gC ?q9G ?q9v ?q9m ?q9o ?q9a ?q9b ?q9c ?_); (case q9G => assumption); (case q9v | q9a | q9b => exact rfl); (case q9m => k_extra "mem"); (case q9o => first | assumption | exact rfl); (case q9c => decide)) | ((with_reducible refine' r_alc ?q9w ?q9c ?q9k ?q9n ?q9s ?_); (case q9w | q9c | q9k => exact rfl); (case q9n => decide); (case q9s => (intro _; exact rfl))) | with_reducible refine isTrue_or_nil ?_ | ((with_reducible refine' r_range1 ?q9G ?_); (case q9G => assumption); intro _ _ _ _ _ _) | (with_reducible refine' r_sub ?_ <;> intro _ _) | (with_reducible refine' r_neg ?_ <;> intro _ _))))
      refine cal (by assumption) (sp_list_of1 (.head _) (by simp)) ?_ (h1 := by k_extra "le") (h2 := by k_extra "le")
      rintro v9 nw h' t' ⟨ys, L11, rfl, rfl, Rw⟩ G
      (repeat' ((first | k_extra "w" | ((with_reducible refine' r_nameC ?q9G ?q9v ?q9m ?q9o ?q9a ?q9b ?q9c ?_); (case q9G => assumption); (case q9v | q9a | q9b => exact rfl); (case q9m => k_extra "mem"); (case q9o => first | assumption | exact rfl); (case q9c => decide)) | with_reducible refine' UnaryOp_ ?_ | ((with_reducible refine' r_gK ?q9G ?q9X ?q9e ?q9g ?q9a ?q9b ?q9c ?_); (case q9G | q9X => assumption); (case q9g | q9a | q9b => exact rfl); (case q9e => k_is); (case q9c => decide)) | ((with_reducible refine' r_gC ?q9G ?q9v ?q9m ?q9o ?q9a ?q9b ?q9c ?_); (case q9G => assumption); (case q9v | q9a | q9b => exact rfl); (case q9m => k_extra "mem"); (case q9o => first | assumption | exact rfl); (case q9c => decide)) | ((with_reducible refine' r_alc ?q9w ?q9c ?q9k ?q9n ?q9s ?_); (case q9w | q9c | q9k => exact rfl); (case q9n => decide); (case q9s => (intro _; exact rfl))) | with_reducible refine isTrue_or_nil ?_ | ((with_reducible refine' r_range1 ?q9G ?_); (case q9G => assumption); intro _ _ _ _ _ _) | (with_reducible refine' r_sub ?_ <;> intro _ _) | (with_reducible refine' r_neg ?_ <;> intro _ _))))
      have hb3 : ∀ p ∈ L10 ++ (L9 ++ bs), p ∈ L10 ++ (L9 ++ (L + 3, o1) :: (L + 2, o2) :: (L + 1, o3) :: rest) := fun p hp => by
        rcases List.mem_append.mp hp with hp | hp
        · exact List.mem_append_left _ hp
        · exact List.mem_append_right _ (hb2 p hp)
      obtain ⟨bb2, RR⟩ := rel_of_row (bs' := L10 ++ (L9 ++ bs)) (ds := [atS n (wordOf c), d9]) (dot := false) Rw (by simp) rfl rfl (fun p hp => .tail _ (.tail _ (.tail _ (.tail _ (hb3 p hp))))) (fun i w' d hw hd => by
        match i, hw, hd with
        | 0, hw, hd =>
          cases hw; cases hd
          exact ⟨0, rel_atS ⟨sx, k8, t8, num8, rfl, S.mono fun p hp => List.mem_append_right _ hp⟩⟩
        | 1, hw, hd =>
          cases hw; cases hd
          exact ⟨bb, R4⟩
        | i + 2, hw, hd => simp at hw)
      have D5 := D4.mono (rest' := L11 ++ (L10 ++ (L9 ++ bs))) (fun p hp => List.mem_append_right _ hp) (Nat.le_refl _)
      have ea : ∀ l : List (Addr × Obj), L11 ++ (L10 ++ (L9 ++ l)) = (L11 ++ (L10 ++ L9)) ++ l := fun l => by simp
      rw [ea] at RR D5
      exact hQ _ _ <| r_backP (by assumption) ⟨L11 ++ (L10 ++ L9), ds3, rvs3, _, _, oN3, kvs3, .lst [atS n (wordOf c), d9] false, bb2, rfl, D5, RR, by simp, fun d hd => by
        rcases List.mem_cons.mp hd with rfl | hd
        · exact ok_atS
        · rw [List.mem_singleton] at hd; rw [hd]; exact ok4⟩ (by rw [← ea]; k_extra "sel")
    · (repeat' ((first | k_extra "w" | ((with_reducible refine' r_nameC ?q9G ?q9v ?q9m ?q9o ?q9a ?q9b ?q9c ?_); (case q9G => assumption); (case q9v | q9a | q9b => exact rfl); (case q9m => k_extra "mem"); (case q9o => first | assumption | exact rfl); (case q9c => decide)) | with_reducible refine' UnaryOp_ ?_ | ((with_reducible refine' r_gK ?q9G ?q9X ?q9e ?q9g ?q9a ?q9b ?q9c ?_); (case q9G | q9X => assumption); (case q9g | q9a | q9b => exact rfl); (case q9e => k_is); (case q9c => decide)) | ((with_reducible refine' r_gC ?q9G ?q9v ?q9m ?q9o ?q9a ?q9b ?q9c ?_); (case q9G => assumption); (case q9v | q9a | q9b => exact rfl); (case q9m => k_extra "mem"); (case q9o => first | assumption | exact rfl); (case q9c => decide)) | ((with_reducible refine' r_alc ?q9w ?q9c ?q9k ?q9n ?q9s ?_); (case q9w | q9c | q9k => exact rfl); (case q9n => decide); (case q9s => (intro _; exact rfl))) | with_reducible refine isTrue_or_nil ?_ | ((with_reducible refine' r_range1 ?q9G ?_); (case q9G => assumption); intro _ _ _ _ _ _) | (with_reducible refine' r_sub ?_ <;> intro _ _) | (with_reducible refine' r_neg ?_ <;> intro _ _))))
      refine cal (by assumption) (sp_draw (by decide) (by decide) D1) ?_ (h1 := by k_extra "le") (h2 := by k_extra "le")
      rintro v nw h' t' ⟨c, u2, rfl, c0, c7, ds2, nd2, rfl, D2⟩ G
      obtain ⟨k9, t9, It⟩ := D.tab
      (repeat' ((first | k_extra "w" | ((with_reducible refine' r_nameC ?q9G ?q9v ?q9m ?q9o ?q9a ?q9b ?q9c ?_); (case q9G => assumption); (case q9v | q9a | q9b => exact rfl); (case q9m => k_extra "mem"); (case q9o => first | assumption | exact rfl); (case q9c => decide)) | with_reducible refine' UnaryOp_ ?_ | ((with_reducible refine' r_gK ?q9G ?q9X ?q9e ?q9g ?q9a ?q9b ?q9c ?_); (case q9G | q9X => assumption); (case q9g | q9a | q9b => exact rfl); (case q9e => k_is); (case q9c => decide)) | ((with_reducible refine' r_gC ?q9G ?q9v ?q9m ?q9o ?q9a ?q9b ?q9c ?_); (case q9G => assumption); (case q9v | q9a | q9b => exact rfl); (case q9m => k_extra "mem"); (case q9o => first | assumption | exact rfl); (case q9c => decide)) | ((with_reducible refine' r_alc ?q9w ?q9c ?q9k ?q9n ?q9s ?_); (case q9w | q9c | q9k => exact rfl); (case q9n => decide); (case q9s => (intro _; exact rfl))) | with_reducible refine isTrue_or_nil ?_ | ((with_reducible refine' r_range1 ?q9G ?_); (case q9G => assumption); intro _ _ _ _ _ _) | (with_reducible refine' r_sub ?_ <;> intro _ _) | (with_reducible refine' r_neg ?_ <;> intro _ _))))
      rename_i r _ _ ua ub _
      have hct : c.toNat ≤ 6 := by omega
      refine cmp_range (n := c.toNat) (fun i ys nw => ∃ Lx dsx rvsx ndx nrx oNx kvsx, ∃ dsD : List (Dt n), nw = DL dA rA nA dsx rvsx ndx nrx oNx (Lx ++ (r, rgObj 0 c 1 ua u2 ub) :: (L + 3, o1) :: (L + 2, o2) :: (L + 1, o3) :: rest) ∧ Dk w (Lx ++ bs) tb rA nA dsx rvsx oNx kvsx ((7 - i) * bud n + e) ∧ ys.length = i ∧ dsD.length = i ∧ (∀ d ∈ dsD, Ok n d) ∧
          ∀ (j : Nat) (w' : Value) (d : Dt n), ys[j]? = some w' → dsD[j]? = some d → ∃ b, Rel (fr.heap_1 w.params) (Lx ++ bs) n b w' d) (by decide) rfl rfl (Ar.hd (by assumption))
        (news := DL dA rA nA ds2 rvs nd2 nr oN ([] ++ (r, rgObj 0 c 1 ua u2 ub) :: (L + 3, o1) :: (L + 2, o2) :: (L + 1, o3) :: rest)) (Lg.sel (by assumption) (by rw [List.nil_append]; k_extra "sel")) (.tail _ (.tail _ (.tail _ (.head _)))) (small_one (by decide) (by decide) (by k_extra "le") (by k_extra "le")) (size_up c0) (by k_extra "size")
        ⟨[], ds2, rvs, nd2, nr, oN, kvs, [], rfl, ⟨D2, ⟨k9, t9, It⟩, D.kd, D.ok, D.low, by have := D.rz; unfold bud at this; omega, by have := D.kz; unfold bud at this; omega⟩, rfl, rfl, fun _ h => (nomatch h), fun j w' d h => absurd (show ([] : List Value)[j]? = some w' from h) (by simp)⟩ ?_ (endK_some rfl rfl ?_)
      · rintro i v ys nw I oI C oC D' m₂ h t hi hv ⟨Lx, dsx, rvsx, ndx, nrx, oNx, kvsx, dsD, rfl, Dx, hy1, hy2, hy3, hy4⟩ hn hm G
        refine wpAny_hide fun Q8 hT => ?_
        (repeat' ((first | k_extra "w" | ((with_reducible refine' r_nameC ?q9G ?q9v ?q9m ?q9o ?q9a ?q9b ?q9c ?_); (case q9G => assumption); (case q9v | q9a | q9b => exact rfl); (case q9m => k_extra "mem"); (case q9o => first | assumption | exact rfl); (case q9c => decide)) | with_reducible refine' UnaryOp_ ?_ | ((with_reducible refine' r_gK ?q9G ?q9X ?q9e ?q9g ?q9a ?q9b ?q9c ?_); (case q9G | q9X => assumption); (case q9g | q9a | q9b => exact rfl); (case q9e => k_is); (case q9c => decide)) | ((with_reducible refine' r_gC ?q9G ?q9v ?q9m ?q9o ?q9a ?q9b ?q9c ?_); (case q9G => assumption); (case q9v | q9a | q9b => exact rfl); (case q9m => k_extra "mem"); (case q9o => first | assumption | exact rfl); (case q9c => decide)) | ((with_reducible refine' r_alc ?q9w ?q9c ?q9k ?q9n ?q9s ?_); (case q9w | q9c | q9k => exact rfl); (case q9n => decide); (case q9s => (intro _; exact rfl))) | with_reducible refine isTrue_or_nil ?_ | ((with_reducible refine' r_range1 ?q9G ?_); (case q9G => assumption); intro _ _ _ _ _ _) | (with_reducible refine' r_sub ?_ <;> intro _ _) | (with_reducible refine' r_neg ?_ <;> intro _ _))))
        have e1 : ((n + 1 : Nat) : Int) - 1 = (n : Int) := by omega
        rw [e1]
        have hb2 : ∀ p ∈ Lx ++ bs, p ∈ (I, oI) :: (C, oC) :: (D', LCg.lst ys) :: (Lx ++ (r, rgObj 0 c 1 ua u2 ub) :: (L + 3, o1) :: (L + 2, o2) :: (L + 1, o3) :: rest) := fun p hp => by
          rcases List.mem_append.mp hp with hp | hp
          · exact .tail _ (.tail _ (.tail _ (List.mem_append_left _ hp)))
          · exact .tail _ (.tail _ (.tail _ (List.mem_append_right _ (.tail _ (.tail _ (.tail _ (.tail _ (hbs p hp))))))))
        have hbud : 7 - i = (7 - (i + 1)) + 1 := by omega
        have Dx' : Dk w (Lx ++ bs) tb rA nA dsx rvsx oNx kvsx (bud n + ((7 - (i + 1)) * bud n + e)) := Dx.mono (fun _ h => h) (by rw [hbud, Nat.succ_mul]; omega)
        refine cal (Lg.sel (by assumption) (by k_extra "sel")) (M ((I, oI) :: (C, oC) :: (D', LCg.lst ys) :: (Lx ++ (r, rgObj 0 c 1 ua u2 ub) :: (L + 3, o1) :: (L + 2, o2) :: (L + 1, o3) :: rest)) (Lx ++ bs) dA tb rA nA dsx rvsx ndx nrx oNx kvsx _ _ hb2 Dx') ?_ (h1 := by k_extra "le") (h2 := by k_extra "le")
        rintro v' nw h' t' ⟨L', ds', rvs', nd', nr', oN', kvs', d9, bb, rfl, D9, R9, ok9⟩ G
        refine hT _ _ ⟨_, _, DL dA rA nA ds' rvs' nd' nr' oN' (L' ++ (Lx ++ (r, rgObj 0 c 1 ua u2 ub) :: (L + 3, o1) :: (L + 2, o2) :: (L + 1, o3) :: rest)), rfl, Lg.sel (by assumption) (by k_extra "sel"), L' ++ Lx, ds', rvs', nd', nr', oN', kvs', dsD ++ [d9], by rw [List.append_assoc], by rw [List.append_assoc]; exact D9, by simp [hy1], by simp [hy2], fun d hd => ?_, fun j w' d hw hd => ?_⟩
        · rcases List.mem_append.mp hd with hd | hd
          · exact hy3 d hd
          · rw [List.mem_singleton] at hd; rw [hd]; exact ok9
        · rw [List.append_assoc]
          rcases snoc_get hw with hw | ⟨j1, rfl⟩
          · rcases snoc_get hd with hd | ⟨j2, rfl⟩
            · obtain ⟨b, q⟩ := hy4 j w' d hw hd
              exact ⟨b, q.mono fun p hp => List.mem_append_right _ hp⟩
            · rw [List.getElem?_eq_none (by k_extra "le")] at hw; cases hw
          · rcases snoc_get hd with hd | ⟨j2, rfl⟩
            · rw [List.getElem?_eq_none (by k_extra "le")] at hd; cases hd
            · exact ⟨bb, R9⟩
      · rintro D' h t ys nw G ⟨Lx, dsx, rvsx, ndx, nrx, oNx, kvsx, dsD, rfl, Dx, hy1, hy2, hy3, hy4⟩
        by_cases w2' : way = 2
        · subst w2'
          (repeat' ((first | k_extra "w" | ((with_reducible refine' r_nameC ?q9G ?q9v ?q9m ?q9o ?q9a ?q9b ?q9c ?_); (case q9G => assumption); (case q9v | q9a | q9b => exact rfl); (case q9m => k_extra "mem"); (case q9o => first | assumption | exact rfl); (case q9c => decide)) | with_reducible refine' UnaryOp_ ?_ | ((with_reducible refine' r_gK ?q9G ?q9X ?q9e ?q9g ?q9a ?q9b ?q9c ?_); (case q9G | q9X => assumption); (case q9g | q9a | q9b => exact rfl); (case q9e => k_is); (case q9c => decide)) | ((with_reducible refine' r_gC ?q9G ?q9v ?q9m ?q9o ?q9a ?q9b ?q9c ?_); (case q9G => assumption); (case q9v | q9a | q9b => exact rfl); (case q9m => k_extra "mem"); (case q9o => first | assumption | exact rfl); (case q9c => decide)) | ((with_reducible refine' r_alc ?q9w ?q9c ?q9k ?q9n ?q9s ?_); (case q9w | q9c | q9k => exact rfl); (case q9n => decide); (case q9s => (intro _; exact rfl))) | with_reducible refine isTrue_or_nil ?_ | ((with_reducible refine' r_range1 ?q9G ?_); (case q9G => assumption); intro _ _ _ _ _ _) | (with_reducible refine' r_sub ?_ <;> intro _ _) | (with_reducible refine' r_neg ?_ <;> intro _ _))))
          refine cal (by assumption) new_vec ?_ (h1 := by k_extra "le") (h2 := by k_extra "le")
          rintro v nw h' t' ⟨x, dx, es, jj, rfl, rfl, ⟨k5, t5, rfl⟩, hxx⟩ G
          (repeat' ((first | k_extra "w" | ((with_reducible refine' r_nameC ?q9G ?q9v ?q9m ?q9o ?q9a ?q9b ?q9c ?_); (case q9G => assumption); (case q9v | q9a | q9b => exact rfl); (case q9m => k_extra "mem"); (case q9o => first | assumption | exact rfl); (case q9c => decide)) | with_reducible refine' UnaryOp_ ?_ | ((with_reducible refine' r_gK ?q9G ?q9X ?q9e ?q9g ?q9a ?q9b ?q9c ?_); (case q9G | q9X => assumption); (case q9g | q9a | q9b => exact rfl); (case q9e => k_is); (case q9c => decide)) | ((with_reducible refine' r_gC ?q9G ?q9v ?q9m ?q9o ?q9a ?q9b ?q9c ?_); (case q9G => assumption); (case q9v | q9a | q9b => exact rfl); (case q9m => k_extra "mem"); (case q9o => first | assumption | exact rfl); (case q9c => decide)) | ((with_reducible refine' r_alc ?q9w ?q9c ?q9k ?q9n ?q9s ?_); (case q9w | q9c | q9k => exact rfl); (case q9n => decide); (case q9s => (intro _; exact rfl))) | with_reducible refine isTrue_or_nil ?_ | ((with_reducible refine' r_range1 ?q9G ?_); (case q9G => assumption); intro _ _ _ _ _ _) | (with_reducible refine' r_sub ?_ <;> intro _ _) | (with_reducible refine' r_neg ?_ <;> intro _ _))))
          have hx2 : ∀ p ∈ Lx ++ bs, p.1 < x := fun p hp => hxx p (.tail _ (.tail _ (.tail _ (.tail _ (by
            rcases List.mem_append.mp hp with hp | hp
            · exact List.mem_append_left _ hp
            · exact List.mem_append_right _ (.tail _ (.tail _ (.tail _ (.tail _ (hbs p hp))))))))))
          refine hQ _ _ <| r_backP (by assumption) ⟨(x, instObj 141 dx) :: (dx, dictOf (veE k5 t5 D') jj) :: (D', LCg.lst ys) :: Lx, dsx, rvsx, _, _, oNx, kvsx, .vec dsD, x + 1, rfl, Dx.mono (fun p hp => .tail _ (.tail _ (.tail _ hp))) (by k_extra "le"), ⟨x, D', dx, ys, k5, t5, jj, _, rfl, Nat.lt_succ_self x, .head _, .tail _ (.head _), .tail _ (.tail _ (.head _)), by omega, fun i w' d hw hd => ?_⟩, by omega, hy3⟩ (by rw [List.cons_append, List.cons_append, List.cons_append]; k_extra "sel")
          obtain ⟨b, q⟩ := hy4 i w' d hw hd
          exact (Rel.bound n b w' d hx2 q).mono fun p hp => .tail _ (.tail _ (.tail _ hp))
        · (repeat' ((first | k_extra "w" | ((with_reducible refine' r_nameC ?q9G ?q9v ?q9m ?q9o ?q9a ?q9b ?q9c ?_); (case q9G => assumption); (case q9v | q9a | q9b => exact rfl); (case q9m => k_extra "mem"); (case q9o => first | assumption | exact rfl); (case q9c => decide)) | with_reducible refine' UnaryOp_ ?_ | ((with_reducible refine' r_gK ?q9G ?q9X ?q9e ?q9g ?q9a ?q9b ?q9c ?_); (case q9G | q9X => assumption); (case q9g | q9a | q9b => exact rfl); (case q9e => k_is); (case q9c => decide)) | ((with_reducible refine' r_gC ?q9G ?q9v ?q9m ?q9o ?q9a ?q9b ?q9c ?_); (case q9G => assumption); (case q9v | q9a | q9b => exact rfl); (case q9m => k_extra "mem"); (case q9o => first | assumption | exact rfl); (case q9c => decide)) | ((with_reducible refine' r_alc ?q9w ?q9c ?q9k ?q9n ?q9s ?_); (case q9w | q9c | q9k => exact rfl); (case q9n => decide); (case q9s => (intro _; exact rfl))) | with_reducible refine isTrue_or_nil ?_ | ((with_reducible refine' r_range1 ?q9G ?_); (case q9G => assumption); intro _ _ _ _ _ _) | (with_reducible refine' r_sub ?_ <;> intro _ _) | (with_reducible refine' r_neg ?_ <;> intro _ _))))
          have fin : ∀ (tv : Value) (dot : Bool), (if dot then ∃ u, tv = .int 7 u else tv = .ref 77) → (dot = true → ys ≠ []) → ∀ (ys9 : List Addr) (L11 cur : List (Addr × Obj)), Row cur ys9 ys tv L11 → (∀ p ∈ Lx ++ bs, p ∈ cur) →
              ∃ d : Dt (n + 1), ∃ bb, Rel (fr.heap_1 w.params) (L11 ++ (Lx ++ bs)) (n + 1) bb (atv ys9 tv 0) d ∧ Ok (n + 1) d := by
            intro tv dot ht hne ys9 L11 cur Rw hs
            by_cases hy : ys = []
            · have hd : dot = false := by
                cases dot with
                | false => rfl
                | true => exact absurd hy (hne rfl)
              subst hd
              have htv : tv = .ref 77 := ht
              have h9 : ys9.length = 0 := by rw [← Rw.len, hy]; rfl
              obtain ⟨k7, t7, N⟩ := nil_in (w := w) (news := L11 ++ (Lx ++ bs))
              refine ⟨.at (.sym .nil), 0, ?_, trivial⟩
              rw [atv_none (by k_extra "le"), htv]
              exact ⟨77, k7, t7, 0, rfl, N⟩
            · obtain ⟨bb, q⟩ := rel_of_row (ds := dsD) (dot := dot) Rw hy (by k_extra "le") ht hs hy4
              exact ⟨.lst dsD dot, bb, q, by omega, hy3⟩
          have hs9 : ∀ p ∈ Lx ++ bs, p ∈ Lx ++ (r, rgObj 0 c 1 ua u2 ub) :: (L + 3, o1) :: (L + 2, o2) :: (L + 1, o3) :: rest := fun p hp => by
            rcases List.mem_append.mp hp with hp | hp
            · exact List.mem_append_left _ hp
            · exact List.mem_append_right _ (.tail _ (.tail _ (.tail _ (.tail _ (hbs p hp)))))
          have ea : ∀ (L11 l : List (Addr × Obj)), L11 ++ (Lx ++ l) = (L11 ++ Lx) ++ l := fun L11 l => by simp
          by_cases w3 : way = 3
          · (repeat' ((first | k_extra "w" | ((with_reducible refine' r_nameC ?q9G ?q9v ?q9m ?q9o ?q9a ?q9b ?q9c ?_); (case q9G => assumption); (case q9v | q9a | q9b => exact rfl); (case q9m => k_extra "mem"); (case q9o => first | assumption | exact rfl); (case q9c => decide)) | with_reducible refine' UnaryOp_ ?_ | ((with_reducible refine' r_gK ?q9G ?q9X ?q9e ?q9g ?q9a ?q9b ?q9c ?_); (case q9G | q9X => assumption); (case q9g | q9a | q9b => exact rfl); (case q9e => k_is); (case q9c => decide)) | ((with_reducible refine' r_gC ?q9G ?q9v ?q9m ?q9o ?q9a ?q9b ?q9c ?_); (case q9G => assumption); (case q9v | q9a | q9b => exact rfl); (case q9m => k_extra "mem"); (case q9o => first | assumption | exact rfl); (case q9c => decide)) | ((with_reducible refine' r_alc ?q9w ?q9c ?q9k ?q9n ?q9s ?_); (case q9w | q9c | q9k => exact rfl); (case q9n => decide); (case q9s => (intro _; exact rfl))) | with_reducible refine isTrue_or_nil ?_ | ((with_reducible refine' r_range1 ?q9G ?_); (case q9G => assumption); intro _ _ _ _ _ _) | (with_reducible refine' r_sub ?_ <;> intro _ _) | (with_reducible refine' r_neg ?_ <;> intro _ _))))
            refine r_neNil (by assumption) (by k_extra "le") (by assumption) (by k_extra "mem") (by k_extra "mem") ?_
            cases hy : ys.isEmpty with
            | true =>
              (repeat' ((first | k_extra "w" | ((with_reducible refine' r_nameC ?q9G ?q9v ?q9m ?q9o ?q9a ?q9b ?q9c ?_); (case q9G => assumption); (case q9v | q9a | q9b => exact rfl); (case q9m => k_extra "mem"); (case q9o => first | assumption | exact rfl); (case q9c => decide)) | with_reducible refine' UnaryOp_ ?_ | ((with_reducible refine' r_gK ?q9G ?q9X ?q9e ?q9g ?q9a ?q9b ?q9c ?_); (case q9G | q9X => assumption); (case q9g | q9a | q9b => exact rfl); (case q9e => k_is); (case q9c => decide)) | ((with_reducible refine' r_gC ?q9G ?q9v ?q9m ?q9o ?q9a ?q9b ?q9c ?_); (case q9G => assumption); (case q9v | q9a | q9b => exact rfl); (case q9m => k_extra "mem"); (case q9o => first | assumption | exact rfl); (case q9c => decide)) | ((with_reducible refine' r_alc ?q9w ?q9c ?q9k ?q9n ?q9s ?_); (case q9w | q9c | q9k => exact rfl); (case q9n => decide); (case q9s => (intro _; exact rfl))) | with_reducible refine isTrue_or_nil ?_ | ((with_reducible refine' r_range1 ?q9G ?_); (case q9G => assumption); intro _ _ _ _ _ _) | (with_reducible refine' r_sub ?_ <;> intro _ _) | (with_reducible refine' r_neg ?_ <;> intro _ _))))
              refine cal (by assumption) (sp_list_of (by k_extra "mem") (by k_extra "le")) ?_ (h1 := by k_extra "le") (h2 := by k_extra "le")
              rintro v9 nw h' t' ⟨ys9, L11, rfl, rfl, Rw⟩ G
              (repeat' ((first | k_extra "w" | ((with_reducible refine' r_nameC ?q9G ?q9v ?q9m ?q9o ?q9a ?q9b ?q9c ?_); (case q9G => assumption); (case q9v | q9a | q9b => exact rfl); (case q9m => k_extra "mem"); (case q9o => first | assumption | exact rfl); (case q9c => decide)) | with_reducible refine' UnaryOp_ ?_ | ((with_reducible refine' r_gK ?q9G ?q9X ?q9e ?q9g ?q9a ?q9b ?q9c ?_); (case q9G | q9X => assumption); (case q9g | q9a | q9b => exact rfl); (case q9e => k_is); (case q9c => decide)) | ((with_reducible refine' r_gC ?q9G ?q9v ?q9m ?q9o ?q9a ?q9b ?q9c ?_); (case q9G => assumption); (case q9v | q9a | q9b => exact rfl); (case q9m => k_extra "mem"); (case q9o => first | assumption | exact rfl); (case q9c => decide)) | ((with_reducible refine' r_alc ?q9w ?q9c ?q9k ?q9n ?q9s ?_); (case q9w | q9c | q9k => exact rfl); (case q9n => decide); (case q9s => (intro _; exact rfl))) | with_reducible refine isTrue_or_nil ?_ | ((with_reducible refine' r_range1 ?q9G ?_); (case q9G => assumption); intro _ _ _ _ _ _) | (with_reducible refine' r_sub ?_ <;> intro _ _) | (with_reducible refine' r_neg ?_ <;> intro _ _))))
              obtain ⟨d9, bb9, R9, ok9⟩ := fin (.ref 77) false rfl (fun q => nomatch q) ys9 L11 _ Rw (fun p hp => .tail _ (.tail _ (.tail _ (.tail _ (.tail _ (hs9 p hp))))))
              have D9 := Dx.mono (rest' := L11 ++ (Lx ++ bs)) (b' := e) (fun p hp => List.mem_append_right _ hp) (by k_extra "le")
              rw [ea] at R9 D9
              exact hQ _ _ <| r_backP (by assumption) ⟨L11 ++ Lx, dsx, rvsx, _, _, oNx, kvsx, d9, bb9, rfl, D9, R9, ok9⟩ (by rw [← ea]; k_extra "sel")
            | false =>
              (repeat' ((first | k_extra "w" | ((with_reducible refine' r_nameC ?q9G ?q9v ?q9m ?q9o ?q9a ?q9b ?q9c ?_); (case q9G => assumption); (case q9v | q9a | q9b => exact rfl); (case q9m => k_extra "mem"); (case q9o => first | assumption | exact rfl); (case q9c => decide)) | with_reducible refine' UnaryOp_ ?_ | ((with_reducible refine' r_gK ?q9G ?q9X ?q9e ?q9g ?q9a ?q9b ?q9c ?_); (case q9G | q9X => assumption); (case q9g | q9a | q9b => exact rfl); (case q9e => k_is); (case q9c => decide)) | ((with_reducible refine' r_gC ?q9G ?q9v ?q9m ?q9o ?q9a ?q9b ?q9c ?_); (case q9G => assumption); (case q9v | q9a | q9b => exact rfl); (case q9m => k_extra "mem"); (case q9o => first | assumption | exact rfl); (case q9c => decide)) | ((with_reducible refine' r_alc ?q9w ?q9c ?q9k ?q9n ?q9s ?_); (case q9w | q9c | q9k => exact rfl); (case q9n => decide); (case q9s => (intro _; exact rfl))) | with_reducible refine isTrue_or_nil ?_ | ((with_reducible refine' r_range1 ?q9G ?_); (case q9G => assumption); intro _ _ _ _ _ _) | (with_reducible refine' r_sub ?_ <;> intro _ _) | (with_reducible refine' r_neg ?_ <;> intro _ _))))
              refine cal (by assumption) (sp_list_of (by k_extra "mem") (by k_extra "le")) ?_ (h1 := by k_extra "le") (h2 := by k_extra "le")
              rintro v9 nw h' t' ⟨ys9, L11, rfl, rfl, Rw⟩ G
              (repeat' ((first | k_extra "w" | ((with_reducible refine' r_nameC ?q9G ?q9v ?q9m ?q9o ?q9a ?q9b ?q9c ?_); (case q9G => assumption); (case q9v | q9a | q9b => exact rfl); (case q9m => k_extra "mem"); (case q9o => first | assumption | exact rfl); (case q9c => decide)) | with_reducible refine' UnaryOp_ ?_ | ((with_reducible refine' r_gK ?q9G ?q9X ?q9e ?q9g ?q9a ?q9b ?q9c ?_); (case q9G | q9X => assumption); (case q9g | q9a | q9b => exact rfl); (case q9e => k_is); (case q9c => decide)) | ((with_reducible refine' r_gC ?q9G ?q9v ?q9m ?q9o ?q9a ?q9b ?q9c ?_); (case q9G => assumption); (case q9v | q9a | q9b => exact rfl); (case q9m => k_extra "mem"); (case q9o => first | assumption | exact rfl); (case q9c => decide)) | ((with_reducible refine' r_alc ?q9w ?q9c ?q9k ?q9n ?q9s ?_); (case q9w | q9c | q9k => exact rfl); (case q9n => decide); (case q9s => (intro _; exact rfl))) | with_reducible refine isTrue_or_nil ?_ | ((with_reducible refine' r_range1 ?q9G ?_); (case q9G => assumption); intro _ _ _ _ _ _) | (with_reducible refine' r_sub ?_ <;> intro _ _) | (with_reducible refine' r_neg ?_ <;> intro _ _))))
              obtain ⟨d9, bb9, R9, ok9⟩ := fin (.int 7 _) true ⟨_, rfl⟩ (fun _ q => by rw [q] at hy; cases hy) ys9 L11 _ Rw (fun p hp => .tail _ (.tail _ (.tail _ (.tail _ (.tail _ (hs9 p hp))))))
              have D9 := Dx.mono (rest' := L11 ++ (Lx ++ bs)) (b' := e) (fun p hp => List.mem_append_right _ hp) (by k_extra "le")
              rw [ea] at R9 D9
              exact hQ _ _ <| r_backP (by assumption) ⟨L11 ++ Lx, dsx, rvsx, _, _, oNx, kvsx, d9, bb9, rfl, D9, R9, ok9⟩ (by rw [← ea]; k_extra "sel")
          · (repeat' ((first | k_extra "w" | ((with_reducible refine' r_nameC ?q9G ?q9v ?q9m ?q9o ?q9a ?q9b ?q9c ?_); (case q9G => assumption); (case q9v | q9a | q9b => exact rfl); (case q9m => k_extra "mem"); (case q9o => first | assumption | exact rfl); (case q9c => decide)) | with_reducible refine' UnaryOp_ ?_ | ((with_reducible refine' r_gK ?q9G ?q9X ?q9e ?q9g ?q9a ?q9b ?q9c ?_); (case q9G | q9X => assumption); (case q9g | q9a | q9b => exact rfl); (case q9e => k_is); (case q9c => decide)) | ((with_reducible refine' r_gC ?q9G ?q9v ?q9m ?q9o ?q9a ?q9b ?q9c ?_); (case q9G => assumption); (case q9v | q9a | q9b => exact rfl); (case q9m => k_extra "mem"); (case q9o => first | assumption | exact rfl); (case q9c => decide)) | ((with_reducible refine' r_alc ?q9w ?q9c ?q9k ?q9n ?q9s ?_); (case q9w | q9c | q9k => exact rfl); (case q9n => decide); (case q9s => (intro _; exact rfl))) | with_reducible refine isTrue_or_nil ?_ | ((with_reducible refine' r_range1 ?q9G ?_); (case q9G => assumption); intro _ _ _ _ _ _) | (with_reducible refine' r_sub ?_ <;> intro _ _) | (with_reducible refine' r_neg ?_ <;> intro _ _))))
            refine cal (by assumption) (sp_list_of (by k_extra "mem") (by k_extra "le")) ?_ (h1 := by k_extra "le") (h2 := by k_extra "le")
            rintro v9 nw h' t' ⟨ys9, L11, rfl, rfl, Rw⟩ G
            (repeat' ((first | k_extra "w" | ((with_reducible refine' r_nameC ?q9G ?q9v ?q9m ?q9o ?q9a ?q9b ?q9c ?_); (case q9G => assumption); (case q9v | q9a | q9b => exact rfl); (case q9m => k_extra "mem"); (case q9o => first | assumption | exact rfl); (case q9c => decide)) | with_reducible refine' UnaryOp_ ?_ | ((with_reducible refine' r_gK ?q9G ?q9X ?q9e ?q9g ?q9a ?q9b ?q9c ?_); (case q9G | q9X => assumption); (case q9g | q9a | q9b => exact rfl); (case q9e => k_is); (case q9c => decide)) | ((with_reducible refine' r_gC ?q9G ?q9v ?q9m ?q9o ?q9a ?q9b ?q9c ?_); (case q9G => assumption); (case q9v | q9a | q9b => exact rfl); (case q9m => k_extra "mem"); (case q9o => first | assumption | exact rfl); (case q9c => decide)) | ((with_reducible refine' r_alc ?q9w ?q9c ?q9k ?q9n ?q9s ?_); (case q9w | q9c | q9k => exact rfl); (case q9n => decide); (case q9s => (intro _; exact rfl))) | with_reducible refine isTrue_or_nil ?_ | ((with_reducible refine' r_range1 ?q9G ?_); (case q9G => assumption); intro _ _ _ _ _ _) | (with_reducible refine' r_sub ?_ <;> intro _ _) | (with_reducible refine' r_neg ?_ <;> intro _ _))))
            obtain ⟨d9, bb9, R9, ok9⟩ := fin (.ref 77) false rfl (fun q => nomatch q) ys9 L11 _ Rw (fun p hp => .tail _ (.tail _ (.tail _ (.tail _ (hs9 p hp)))))
            have D9 := Dx.mono (rest' := L11 ++ (Lx ++ bs)) (b' := e) (fun p hp => List.mem_append_right _ hp) (by k_extra "le")
            rw [ea] at R9 D9
            exact hQ _ _ <| r_backP (by assumption) ⟨L11 ++ Lx, dsx, rvsx, _, _, oNx, kvsx, d9, bb9, rfl, D9, R9, ok9⟩ (by rw [← ea]; k_extra "sel")
theorem made_zero : MadeAt w p loose mean mg mb 0 41 203 := made_any (by decide) (by decide) fun n h => by cases h
theorem made_step {n dn un : Nat} (hdn : 40 ≤ dn) (hun : 200 ≤ un) (M : MadeAt w p loose mean mg mb n dn un) : MadeAt w p loose mean mg mb (n + 1) (dn + 1) (un + 3) := made_any hdn hun fun k h => by cases h; exact M
end
section
variable {w : World} {p : Program} {loose : List Str} {mean : ExcName → Option Value} {mg mb : Str → Option Value} {rest : List (Addr × Obj)}
theorem made_four : MadeAt w p loose mean mg mb 4 45 215 := made_step (by decide) (by decide) (made_step (by decide) (by decide) (made_step (by decide) (by decide) (made_step (by decide) (by decide) made_zero)))
theorem sp_printed_gen {oA tb : Addr} {v : Value} {k2 : Nat → Int} {t2 : Nat → Tok} {len lev : Int} {lu lt : Tok} {qb : Bool} {res : List Int} (hv : handedIn v = true) (hO : InsIn (fr.heap_1 w.params) rest oA 312 (opE k2 t2 (.int len lu) (.int lev lt) (.bool qb)))
    (plan : ∀ (c : Ct) (LP : LPT), c.T w p loose mean mg mb LP → c.ob = .ref tb → c.oA = oA → c.k2 = k2 → c.t2 = t2 → c.len = len → c.lev = lev → c.lu = lu → c.lt = lt → c.qb = qb → ∀ rest1, (∀ p ∈ rest, p ∈ rest1) → c.B w rest1 →
      (∀ rest', (∀ p ∈ rest1, p ∈ rest') → LP res [] [] rest') → ∀ q u, LP [] ([] ++ [.ref q]) [] ((q, tupOf [.int 0 u, v]) :: rest1)) :
    SP w p loose mean mg mb (.ref 440) [v, .ref oA, .ref tb] 40 140 rest (fun r nw => ∃ cA vs n, r = .ref cA ∧ nw = (cA, listOf vs.toArray n) :: rest ∧ IntsAre vs res) := by
  ((unfold SP; k_fill; refine' Sp.def ?ho ?hcd ?hb ?hl ?h1 ?h2 ?h3 ?h4 ?_; (case ho | hcd => k_is); (case hb => first | exact fun _ _ => BindsTo.of_eq (binds := [(_, _)]) rfl | exact fun _ _ => BindsTo.of_eq (binds := [(_, _), (_, _)]) rfl | exact fun _ _ => BindsTo.of_eq (binds := [(_, _), (_, _), (_, _)]) rfl | exact fun _ _ => BindsTo.of_eq (binds := [(_, _), (_, _), (_, _), (_, _)]) rfl | exact fun _ _ => BindsTo.of_eq rfl); (case hl => exact locs rfl); (case h1 | h2 | h3 => exact rfl); (case h4 => decide); intro _ _ _ _ _ _ _ _ _ _ _ _ _ _; ((refine wpAny_hide ?_; intro _ hQ))))
  (repeat' (k_extra "w"))
  refine cal (by assumption) new_labels ?_
  rintro lv nw h' t' ⟨lx, rfl, rfl⟩ G
  (repeat' (k_extra "w"))
  refine cal (by assumption) new_pr ?_
  rintro pv nw h' t' ⟨x, dx, es, j, cA, jA, rA, rfl, rfl, k1, t1, rfl⟩ G
  (repeat' (k_extra "w"))
  refine cal (news := PL cA jA rA [] [] [] 0 0 0 ((x, instObj 429 dx) :: (dx, dictOf (prE k1 t1 oA (.ref tb) (.ref lx) cA jA rA) j) :: nw)) (Lg.sel (by assumption) (by k_extra "sel"))
    (sp_printed_m (oA := oA) (ob := .ref tb) (lb := .ref lx) (k1 := k1) (t1 := t1) (.news (.head _) (.tail _ (.head _))) (fun LP T fin q u => plan ⟨x, cA, jA, rA, oA, .ref tb, .ref lx, k1, k2, t1, t2, len, lev, lu, lt, qb⟩ LP T rfl rfl rfl rfl rfl rfl rfl rfl rfl _ memsub (.news (.head _) (.tail _ (.head _))) fin q u)) ?_
  rintro rv nw h' t' ⟨rfl, vs, n1', rfl, hvs⟩ G
  (repeat' (k_extra "w"))
  exact hQ _ _ <| r_backP (by assumption) ⟨cA, vs, _, rfl, rfl, hvs⟩ (by k_extra "sel")
theorem sp_printed_tree {oA tb b : Addr} {v : Value} {k2 : Nat → Int} {t2 : Nat → Tok} {len lev : Int} {lu lt : Tok} {qb : Bool} {d : Dt 4} (R : Rel (fr.heap_1 w.params) rest 4 b v d) (ok : Ok 4 d) (hO : InsIn (fr.heap_1 w.params) rest oA 312 (opE k2 t2 (.int len lu) (.int lev lt) (.bool qb)))
    (hz : (txt len lev qb 4 d 0).length ≤ 1000000) :
    SP w p loose mean mg mb (.ref 440) [v, .ref oA, .ref tb] 40 140 rest (fun r nw => ∃ cA vs n, r = .ref cA ∧ nw = (cA, listOf vs.toArray n) :: rest ∧ IntsAre vs (txt len lev qb 4 d 0)) := by
  refine sp_printed_gen (R.handed) hO fun c LP T e1 e2 e3 e4 e5 e6 e7 e8 e9 rest1 hs hB fin q u => ?_
  subst e2 e3 e4 e5 e6 e7 e8 e9
  refine run_all T (by rw [e1]; rfl) 4 d b v _ [] [] [] q u (R.mono fun p hp => .tail _ (hs p hp)) ok (fun _ h => (nomatch h)) (hB.mono fun p hp => .tail _ hp) (hO.mono fun p hp => .tail _ (hs p hp)) (.head _) (by decide) (by decide) (by simpa using hz) fun rest' h9 => ?_
  exact fin rest' fun p hp => h9 p (.tail _ hp)
noncomputable def tbd : Nat → Nat
  | 0 => 8
  | n + 1 => 9 * (tbd n + 1) + 10
theorem join_len (B : Nat) : ∀ l : List (List Int), (∀ x ∈ l, x.length ≤ B) → (joinSp l).length ≤ l.length * (B + 1)
  | [], _ => by simp [joinSp]
  | [x], h => by
    have := h x (.head _)
    simp [joinSp]; omega
  | x :: y :: r, h => by
    have h1 := h x (.head _)
    have h2 := join_len B (y :: r) fun z hz => h z (.tail _ hz)
    rw [joinSp_cons _ _ (by simp), List.length_append, List.length_cons, List.length_cons (a := x), Nat.succ_mul]
    omega
theorem tbd_ge : ∀ n, 8 ≤ tbd n
  | 0 => Nat.le_refl _
  | n + 1 => by have := tbd_ge n; unfold tbd; omega
theorem tbd_succ (n : Nat) : tbd (n + 1) = 9 * (tbd n + 1) + 10 := rfl
theorem at_len (a : At) : a.codes.length ≤ 8 := by
  cases a with
  | five => decide
  | three => decide
  | sym s => cases s <;> decide
theorem parts_len {α : Type} (f : α → List Int) (len : Int) (ds : List α) (dot : Bool) (B : Nat) (hB : 3 ≤ B) (h : ∀ d ∈ ds, (f d).length ≤ B) : (partsOf f len ds dot).length ≤ ds.length + 2 ∧ ∀ x ∈ partsOf f len ds dot, x.length ≤ B := by
  unfold partsOf
  have h1 : ∀ l : List α, (∀ d ∈ l, d ∈ ds) → l.length ≤ ds.length → ∀ t : List (List Int), t.length ≤ 2 → (∀ x ∈ t, x.length ≤ 3) → (l.map f ++ t).length ≤ ds.length + 2 ∧ ∀ x ∈ l.map f ++ t, x.length ≤ B := by
    intro l hl hn t ht hx
    refine ⟨by simp; omega, fun x q => ?_⟩
    rcases List.mem_append.mp q with q | q
    · obtain ⟨d, hd, rfl⟩ := List.mem_map.mp q
      exact h d (hl d hd)
    · exact Nat.le_trans (hx x q) hB
  have ht : (if 0 ≤ len ∧ len < ds.length then [[46, 46, 46]] else if dot then [[46], [55]] else ([] : List (List Int))).length ≤ 2 ∧ ∀ x ∈ (if 0 ≤ len ∧ len < ds.length then [[46, 46, 46]] else if dot then [[46], [55]] else ([] : List (List Int))), x.length ≤ 3 := by
    split
    · simp
    · cases dot <;> simp
  split
  · exact h1 ds (fun _ h => h) (Nat.le_refl _) _ ht.1 ht.2
  · exact h1 (ds.take len.toNat) (fun d h => List.mem_of_mem_take h) (by rw [List.length_take]; omega) _ ht.1 ht.2
theorem mark_len (n : Nat) (ds : List (Dt n)) : (quoteOf n ds).length ≤ 2 := by
  unfold quoteOf
  split
  · unfold markOf
    split
    · rename_i s _; cases s <;> decide
    · simp
  · simp
theorem txt_len (len lev : Int) (sh : Bool) : ∀ (n : Nat) (d : Dt n) (dep : Int), Ok n d → (txt len lev sh n d dep).length ≤ tbd n := by
  intro n
  induction n with
  | zero => intro d dep _; exact at_len d
  | succ n ih =>
    intro d dep ok
    have hg := tbd_ge n
    cases d with
    | «at» a => have := at_len a; show a.codes.length ≤ _; rw [tbd_succ]; omega
    | lst ds dot =>
      rw [txt_lst]
      have hp := parts_len (fun d => txt len lev sh n d (dep + 1)) len ds dot (tbd n) (by k_extra "le") fun d hd => ih d _ (ok.2 d hd)
      have hj := join_len (tbd n) _ hp.2
      have hm : (partsOf (fun d => txt len lev sh n d (dep + 1)) len ds dot).length * (tbd n + 1) ≤ 9 * (tbd n + 1) := Nat.mul_le_mul_right _ (by have := ok.1; omega)
      split
      · simp; rw [tbd_succ]; omega
      · split
        · rw [List.length_append]
          have := mark_len n ds
          have h2 : (match ds with | [_, x] => txt len lev sh n x (dep + 1) | _ => []).length ≤ tbd n := by
            split
            · exact ih _ _ (ok.2 _ (by simp))
            · simp
          exact Nat.le_trans (Nat.add_le_add this h2) (by rw [tbd_succ]; omega)
        · rw [List.length_append, List.length_cons]; rw [tbd_succ]; simp; omega
    | vec ds =>
      rw [txt_vec]
      have hp := parts_len (fun d => txt len lev sh n d (dep + 1)) len ds false (tbd n) (by k_extra "le") fun d hd => ih d _ (ok.2 d hd)
      have hj := join_len (tbd n) _ hp.2
      have hm : (partsOf (fun d => txt len lev sh n d (dep + 1)) len ds false).length * (tbd n + 1) ≤ 9 * (tbd n + 1) := Nat.mul_le_mul_right _ (by have := ok.1; omega)
      split
      · simp; rw [tbd_succ]; omega
      · rw [List.length_append, List.length_cons]; rw [tbd_succ]; simp; omega
end
section
variable {w : World} {p : Program} {loose : List Str} {mean : ExcName → Option Value} {mg mb : Str → Option Value} {rest : List (Addr × Obj)}
theorem cells4 {cm : Str → Option Value} {n1 n2 n3 n4 : Str} {c1 c2 c3 c4 : Addr} {cells : List (Addr × Obj)} (x : CellsAre cm [(n1, c1), (n2, c2), (n3, c3), (n4, c4)] cells) : ∃ o1 o2 o3 o4, cells = [(c1, o1), (c2, o2), (c3, o3), (c4, o4)] ∧ o1.data = .cell (cm n1) ∧ o2.data = .cell (cm n2) ∧ o3.data = .cell (cm n3) ∧ o4.data = .cell (cm n4) := by
  cases x with | cons h r => obtain ⟨o2, o3, o4, rfl, h2, h3, h4⟩ := cells3 r; exact ⟨_, o2, o3, o4, rfl, h, h2, h3, h4⟩
theorem text_int {i : Int} {u lu lt du : Tok} {len lev dep : Int} {sh : Bool} (hi : i.natAbs < 10) :
    SP w p loose mean mg mb (.ref 539) [.int i u, .int len lu, .int lev lt, .bool sh, .int dep du] 41 203 rest (fun r nw => ∃ u, r = .str (Str.ofString (toString i)) u ∧ nw = rest) := by
  unfold SP
  k_fill
  refine' Sp.defX (fun L => [(Str.ofString "depth", L + 4), (Str.ofString "is_short", L + 3), (Str.ofString "level", L + 2), (Str.ofString "length", L + 1)]) ?ho ?hcd ?hb ?hl ?hn ?hp ?h1 ?h2 ?h3 ?hcl ?_
  (((case ho | hcd => k_is); (case hb => first | exact fun _ _ => BindsTo.of_eq (binds := [(_, _)]) rfl | exact fun _ _ => BindsTo.of_eq (binds := [(_, _), (_, _)]) rfl | exact fun _ _ => BindsTo.of_eq (binds := [(_, _), (_, _), (_, _)]) rfl | exact fun _ _ => BindsTo.of_eq (binds := [(_, _), (_, _), (_, _), (_, _)]) rfl | exact fun _ _ => BindsTo.of_eq rfl); (case hl => exact rfl); (case hn => decide); (case hp => first | exact fun n => hap3 n | exact fun n => hap4 n); (case h1 | h2 | h3 => exact rfl); (case hcl => exact fun _ => rfl)))
  intro A outer A₀ base h₀ h L g d t os cells hA X hcells G
  refine wpAny_hide fun Q9 hQ => ?_
  obtain ⟨o1, o2, o3, o4, rfl, hc1, hc2, hc3, hc4⟩ := cells4 hcells
  simp only [List.cons_append, List.nil_append] at G
  refine Lg.hideM G (x := Str.ofString "datum") (v := .int i u) rfl fun m0 hm0 G0 => ?_
  clear G
  (repeat' ((first | k_extra "w" | ((with_reducible refine' r_isiInt ?q9G ?q9X ?q9e ?_); (case q9G | q9X => assumption); (case q9e => kit_is); intro _))))
  have hlog : i.natAbs.log2 < 1920 := by have := Nat.log2_le_self i.natAbs; omega
  refine r_strInt hlog fun u' t' => ?_
  (repeat' ((first | k_extra "w" | ((with_reducible refine' r_isiInt ?q9G ?q9X ?q9e ?_); (case q9G | q9X => assumption); (case q9e => kit_is); intro _))))
  exact hQ _ _ <| r_backP (by assumption) ⟨_, rfl, rfl⟩ (by k_extra "sel")
theorem text_sym {x : Addr} {k : Nat → Int} {t : Nat → Tok} {num : Int} {s : Sy} {lu lt du : Tok} {len lev dep : Int} {sh : Bool} (I : InsIn (fr.heap_1 w.params) rest x 71 (syE k t num s.name)) :
    SP w p loose mean mg mb (.ref 539) [.ref x, .int len lu, .int lev lt, .bool sh, .int dep du] 41 203 rest (fun r nw => ∃ y u, r = .str y u ∧ nw = rest ∧ codesOf y = s.codes) := by
  unfold SP
  k_fill
  refine' Sp.defX (fun L => [(Str.ofString "depth", L + 4), (Str.ofString "is_short", L + 3), (Str.ofString "level", L + 2), (Str.ofString "length", L + 1)]) ?ho ?hcd ?hb ?hl ?hn ?hp ?h1 ?h2 ?h3 ?hcl ?_
  (((case ho | hcd => k_is); (case hb => first | exact fun _ _ => BindsTo.of_eq (binds := [(_, _)]) rfl | exact fun _ _ => BindsTo.of_eq (binds := [(_, _), (_, _)]) rfl | exact fun _ _ => BindsTo.of_eq (binds := [(_, _), (_, _), (_, _)]) rfl | exact fun _ _ => BindsTo.of_eq (binds := [(_, _), (_, _), (_, _), (_, _)]) rfl | exact fun _ _ => BindsTo.of_eq rfl); (case hl => exact rfl); (case hn => decide); (case hp => first | exact fun n => hap3 n | exact fun n => hap4 n); (case h1 | h2 | h3 => exact rfl); (case hcl => exact fun _ => rfl)))
  intro A outer A₀ base h₀ h L g d t os cells hA X hcells G
  refine wpAny_hide fun Q9 hQ => ?_
  obtain ⟨o1, o2, o3, o4, rfl, hc1, hc2, hc3, hc4⟩ := cells4 hcells
  simp only [List.cons_append, List.nil_append] at G
  refine Lg.hideM G (x := Str.ofString "datum") (v := .ref x) rfl fun m0 hm0 G0 => ?_
  clear G
  (repeat' ((first | k_extra "w" | with_reducible refine' r_eqStr ?_)))
  cases hs : (s.name == Str.ofString ",@") with
  | true =>
    have e : s = .splice := by cases s <;> first | rfl | (exact absurd hs (by decide +kernel))
    subst e
    (repeat' ((first | k_extra "w" | with_reducible refine' r_eqStr ?_)))
    exact hQ _ _ <| r_backP (by assumption) ⟨_, _, rfl, rfl, by decide +kernel⟩ (by k_extra "sel")
  | false =>
    (repeat' ((first | k_extra "w" | with_reducible refine' r_eqStr ?_)))
    exact hQ _ _ <| r_backP (by assumption) ⟨_, _, rfl, rfl, by cases s <;> first | (exact absurd hs (by decide +kernel)) | decide +kernel⟩ (by k_extra "sel")
end
section
variable {w : World} {p : Program} {loose : List Str} {mean : ExcName → Option Value} {mg mb : Str → Option Value} {rest : List (Addr × Obj)}
theorem join_codes : ∀ l : List Str, codesOf (Txt.join (Str.ofString " ") l) = joinSp (l.map codesOf) := by
  intro l
  show codesOf (Builtin.Str.glued _ l) = _
  rw [StrLaws.glued_eq_join]
  have e2 : ∀ a b : Str, codesOf (a ++ b) = codesOf a ++ codesOf b := fun a b => by
    show ((a.cps ++ b.cps).toList.map Int.ofNat) = _
    simp [codesOf]
  have e1 : codesOf (Str.ofString " ") = [32] := by decide +kernel
  induction l with
  | nil => rfl
  | cons x r ih =>
    cases r with
    | nil => rfl
    | cons y r =>
      show codesOf (x ++ Str.ofString " " ++ Str.join (Str.ofString " ") (y :: r)) = _
      rw [e2, e2, ih, e1]
      simp [joinSp]
theorem joinOk_of {l : List Str} (h : (l.map (·.length)).sum + l.length ≤ 1000000) : JoinOk (Str.ofString " ") l = true := by
  unfold JoinOk
  have e := StrLaws.joinTotal (Str.ofString " ") l
  have e1 : (Str.ofString " ").length = 1 := by decide +kernel
  rw [e1] at e
  have e3 : (l.toArray.foldl (· + ·.length + (Str.ofString " ").length) 0) = (l.map (·.length)).sum + l.length * 1 := by rw [e1]; exact e
  rw [e3]
  unfold Builtin.Str.tooLong
  have := sizeLine_eq
  simp; omega
noncomputable def TextAt (w : World) (p : Program) (loose : List Str) (mean : ExcName → Option Value) (mg mb : Str → Option Value) (n dn un : Nat) : Prop :=
  ∀ (rest : List (Addr × Obj)) (d : Dt n) (b : Addr) (v : Value) (len lev dep : Int) (lu lt du : Tok) (sh : Bool), Rel (fr.heap_1 w.params) rest n b v d → Ok n d →
    SP w p loose mean mg mb (.ref 539) [v, .int len lu, .int lev lt, .bool sh, .int dep du] dn un rest (fun r nw => ∃ y u, r = .str y u ∧ nw = rest ∧ codesOf y = txt len lev sh n d dep)
theorem text_atom {a : At} {v : Value} {lu lt du : Tok} {len lev dep : Int} {sh : Bool} (R : RelAt (fr.heap_1 w.params) rest v a) :
    SP w p loose mean mg mb (.ref 539) [v, .int len lu, .int lev lt, .bool sh, .int dep du] 41 203 rest (fun r nw => ∃ y u, r = .str y u ∧ nw = rest ∧ codesOf y = a.codes) := by
  cases a with
  | five =>
    obtain ⟨u, rfl⟩ := R
    exact (text_int (by decide)).mono fun r nw ⟨u, h1, h2⟩ => ⟨_, u, h1, h2, by decide +kernel⟩
  | three =>
    obtain ⟨u, rfl⟩ := R
    exact (text_int (by decide)).mono fun r nw ⟨u, h1, h2⟩ => ⟨_, u, h1, h2, by decide +kernel⟩
  | sym s =>
    obtain ⟨x, k, t, num, rfl, I⟩ := R
    exact text_sym I
theorem text_zero : TextAt w p loose mean mg mb 0 41 203 := fun rest d b v len lev dep lu lt du sh R ok => text_atom R
theorem codesOf_app (a b : Str) : codesOf (a ++ b) = codesOf a ++ codesOf b := by
  show ((a.cps ++ b.cps).toList.map Int.ofNat) = _
  simp [codesOf]
theorem codesOf_len (x : Str) : (codesOf x).length = x.length := by
  show _ = x.cps.size
  simp [codesOf]
noncomputable abbrev pick {α : Type} (len : Int) (l : List α) : List α := if len < 0 then l else l.take len.toNat
theorem pick_len {α β : Type} {ts : List α} {ds : List β} (ht : ts.length = ds.length) (len : Int) : (pick len ts).length = (pick len ds).length := by
  unfold pick
  split
  · exact ht
  · rw [List.length_take, List.length_take, ht]
theorem pick_le {β : Type} (ds : List β) (len : Int) : (pick len ds).length ≤ ds.length := by
  unfold pick
  split
  · exact Nat.le_refl _
  · rw [List.length_take]; omega
theorem pick_get {α : Type} {ts : List α} {len : Int} {i : Nat} {v : α} (h : (pick len ts)[i]? = some v) : ts[i]? = some v := by
  unfold pick at h
  split at h
  · exact h
  · rw [List.getElem?_take] at h
    split at h
    · exact h
    · cases h
theorem pick_ex {α β : Type} {ts : List α} {ds : List β} (ht : ts.length = ds.length) {len : Int} {i : Nat} {v : α} (h : (pick len ts)[i]? = some v) : ∃ d, (pick len ds)[i]? = some d ∧ ts[i]? = some v ∧ ds[i]? = some d := by
  have hi : i < (pick len ts).length := by
    rcases Nat.lt_or_ge i (pick len ts).length with hh | hh
    · exact hh
    · rw [List.getElem?_eq_none hh] at h; cases h
  have hi2 : i < (pick len ds).length := by rw [← pick_len ht]; exact hi
  exact ⟨(pick len ds)[i], List.getElem?_eq_getElem hi2, pick_get h, pick_get (List.getElem?_eq_getElem hi2)⟩
theorem take_snoc {α : Type} {l : List α} {i : Nat} {d : α} (h : l[i]? = some d) : l.take (i + 1) = l.take i ++ [d] := by
  rw [List.take_add_one, h]; rfl
theorem sum_le {l : List Str} {B : Nat} (h : ∀ x ∈ l, x.length ≤ B) : (l.map (·.length)).sum ≤ l.length * B := by
  induction l with
  | nil => simp
  | cons x r ih =>
    have h1 := h x (.head _)
    have h2 := ih fun y hy => h y (.tail _ hy)
    simp only [List.map_cons, List.sum_cons, List.length_cons, Nat.succ_mul]
    omega
theorem parts_ok {α : Type} {f : α → List Int} {len : Int} {ds : List α} {dot : Bool} {B : Nat} {pl : List (Str × Tok)} (h : pl.map (fun q => codesOf q.1) = partsOf f len ds dot) (hB : 3 ≤ B) (hf : ∀ d ∈ ds, (f d).length ≤ B) (h7 : ds.length ≤ 7) (hT : 9 * (B + 1) ≤ 900000) :
    JoinOk (Str.ofString " ") (pl.map (·.1)) = true ∧ (Txt.join (Str.ofString " ") (pl.map (·.1))).length ≤ 900000 := by
  have hp := parts_len f len ds dot B hB hf
  rw [← h] at hp
  have hj := join_len B _ hp.2
  have hl := hp.1
  rw [List.length_map] at hl hj
  have hm : pl.length * (B + 1) ≤ 9 * (B + 1) := Nat.mul_le_mul_right _ (by k_extra "le")
  refine ⟨joinOk_of ?_, ?_⟩
  · have h2 : ∀ x ∈ pl.map (·.1), x.length ≤ B := fun x hx => by
      obtain ⟨q, hq, rfl⟩ := List.mem_map.mp hx
      rw [← codesOf_len]
      exact hp.2 _ (List.mem_map.mpr ⟨q, hq, rfl⟩)
    have h3 := sum_le h2
    rw [List.length_map] at h3 ⊢
    have h4 : pl.length * (B + 1) = pl.length * B + pl.length := Nat.mul_succ _ _
    omega
  · rw [← codesOf_len, join_codes]
    have e : (pl.map (·.1)).map codesOf = pl.map (fun q => codesOf q.1) := by rw [List.map_map]; rfl
    rw [e]
    omega
noncomputable def markStr : Sy → Str
  | .quote => Str.ofString "'"
  | .func => Str.ofString "#'"
  | .splice => Str.ofString ",@"
  | _ => Str.ofString ""
theorem mark_codes (s : Sy) : codesOf (markStr s) = s.mark := by cases s <;> decide +kernel
theorem mark_look {a b c : Tok} (s : Sy) {u : Tok} : ∃ u', (valueAt [(Str.ofString "quote", .str (Str.ofString "'") a), (Str.ofString "function", .str (Str.ofString "#'") b), (Str.ofString ",@", .str (Str.ofString ",@") c)] s.name).getD (.str (Str.ofString "") u) = .str (markStr s) u' := by
  cases s with
  | nil => exact ⟨u, rfl⟩
  | a => exact ⟨u, rfl⟩
  | quote => exact ⟨a, rfl⟩
  | func => exact ⟨b, rfl⟩
  | splice => exact ⟨c, rfl⟩
theorem partsOf_yes {α : Type} (f : α → List Int) {len : Int} {ds : List α} (dot : Bool) (h : 0 ≤ len ∧ len < ds.length) : partsOf f len ds dot = (pick len ds).map f ++ [[46, 46, 46]] := by unfold partsOf; rw [if_pos h]
theorem partsOf_not {α : Type} (f : α → List Int) {len : Int} {ds : List α} (h : ¬(0 ≤ len ∧ len < ds.length)) : partsOf f len ds false = (pick len ds).map f := by unfold partsOf; rw [if_neg h]; exact List.append_nil _
theorem partsOf_dot {α : Type} (f : α → List Int) {len : Int} {ds : List α} (h : ¬(0 ≤ len ∧ len < ds.length)) : partsOf f len ds true = (pick len ds).map f ++ [[46], [55]] := by unfold partsOf; rw [if_neg h]; rfl
section
variable {prog : Program} {w : World} {A : Around} {env : Env} {test : Expr} {body : List Stmt} {Q : Flow → Shared → Prop} {h₀ : Heap} {L : Addr} {g : Array GenState} {d : Drawn} {os : OsState}
/-- a while loop of so many turns -/
theorem wh_inv (J : Nat → (Str → Option Value) → List (Addr × Obj) → Prop) {N : Nat}
    (step : ∀ i m nw h t, i < N → J i m nw → Lg h₀ L h m nw → (∀ m' nw' h' t', J (i + 1) m' nw' → Lg h₀ L h' m' nw' → WhR prog w A env test body Q ⟨h', g, d, t', os⟩) → WhR prog w A env test body Q ⟨h, g, d, t, os⟩)
    (last : ∀ m nw h t, J N m nw → Lg h₀ L h m nw → WhR prog w A env test body Q ⟨h, g, d, t, os⟩) :
    ∀ k i m nw h t, i + k = N → J i m nw → Lg h₀ L h m nw → WhR prog w A env test body Q ⟨h, g, d, t, os⟩
  | 0, i, m, nw, h, t, e, j, G => last m nw h t (by rw [show N = i by omega]; exact j) G
  | k + 1, i, m, nw, h, t, e, j, G => step i m nw h t (by k_extra "le") j G fun m' nw' h' t' j' G' => wh_inv J step last k (i + 1) m' nw' h' t' (by k_extra "le") j' G'
end
theorem codes_ne {x : Str} (h : codesOf x ≠ []) : (x != Str.ofString "") = true := by
  rw [bne_iff_ne]
  intro e
  rw [e] at h
  exact h (by decide +kernel)
theorem codes_eq {x : Str} (h : codesOf x = []) : (x != Str.ofString "") = false := by
  have e : x = Str.ofString "" := by
    have h1 : x.cps.toList = [] := by unfold codesOf at h; exact List.map_eq_nil_iff.mp h
    obtain ⟨⟨l⟩⟩ := x
    cases (show l = [] from h1); rfl
  rw [e]; decide +kernel
theorem sv_snoc2 {pl : List (Str × Tok)} {D : Addr} {a b : Str} {ua ub : Tok} {k : Nat} {r : List (Addr × Obj)} : ((D, listOf (strValues pl ++ [Value.str a ua, Value.str b ub]).toArray k) :: r) = (D, listOf (strValues (pl ++ [(a, ua), (b, ub)])).toArray k) :: r := by unfold strValues; rw [List.map_append]; rfl
theorem two_of {α : Type} : ∀ {l : List α}, l.length = 2 → ∃ a b, l = [a, b]
  | [a, b], _ => ⟨a, b, rfl⟩
theorem quote_two {n : Nat} : ∀ {ds : List (Dt n)}, quoteOf n ds ≠ [] → ds.length = 2
  | [], h => absurd rfl h
  | [_], h => absurd rfl h
  | [_, _], _ => rfl
  | _ :: _ :: _ :: _, h => absurd rfl h
end
section
variable {w : World} {p : Program} {loose : List Str} {mean : ExcName → Option Value} {mg mb : Str → Option Value} {rest : List (Addr × Obj)}
theorem text_vec {n dn un : Nat} (hdn : 40 ≤ dn) (hun : 200 ≤ un) (hT : tbd (n + 1) ≤ 100000) (M : TextAt w p loose mean mg mb n dn un) {x l b : Addr} {ts : List Value} {ln : Nat} {k : Nat → Int} {t : Nat → Tok} {ds : List (Dt n)} {len lev dep : Int} {lu lt du : Tok} {sh : Bool}
    (I : InsIn (fr.heap_1 w.params) rest x 141 (veE k t l)) (hl : (l, listOf ts.toArray ln) ∈ rest) (ht : ts.length = ds.length) (h7 : ds.length ≤ 7) (ok : ∀ d ∈ ds, Ok n d) (it : ∀ (i : Nat) (w' : Value) (d : Dt n), ts[i]? = some w' → ds[i]? = some d → Rel (fr.heap_1 w.params) rest n b w' d) :
    SP w p loose mean mg mb (.ref 539) [.ref x, .int len lu, .int lev lt, .bool sh, .int dep du] (dn + 1) (un + 3) rest (fun r nw => ∃ y u, r = .str y u ∧ nw = rest ∧ codesOf y = txt len lev sh (n + 1) (.vec ds) dep) := by
  unfold SP
  k_fill
  refine' Sp.defX (fun L => [(Str.ofString "depth", L + 4), (Str.ofString "is_short", L + 3), (Str.ofString "level", L + 2), (Str.ofString "length", L + 1)]) ?ho ?hcd ?hb ?hl ?hn ?hp ?h1 ?h2 ?h3 ?hcl ?_
  (((case ho | hcd => k_is); (case hb => first | exact fun _ _ => BindsTo.of_eq (binds := [(_, _)]) rfl | exact fun _ _ => BindsTo.of_eq (binds := [(_, _), (_, _)]) rfl | exact fun _ _ => BindsTo.of_eq (binds := [(_, _), (_, _), (_, _)]) rfl | exact fun _ _ => BindsTo.of_eq (binds := [(_, _), (_, _), (_, _), (_, _)]) rfl | exact fun _ _ => BindsTo.of_eq rfl); (case hl => exact rfl); (case hn => decide); (case hp => first | exact fun n => hap3 n | exact fun n => hap4 n); (case h1 | h2 | h3 => exact rfl); (case hcl => exact fun _ => rfl)))
  intro A outer A₀ base h₀ h L g d t os cells hA X hcells G
  refine wpAny_hide fun Q9 hQ => ?_
  obtain ⟨o1, o2, o3, o4, rfl, hc1, hc2, hc3, hc4⟩ := cells4 hcells
  replace hc1 : o1.data = .cell (some (.int dep du)) := hc1
  replace hc2 : o2.data = .cell (some (.bool sh)) := hc2
  replace hc3 : o3.data = .cell (some (.int lev lt)) := hc3
  replace hc4 : o4.data = .cell (some (.int len lu)) := hc4
  simp only [List.cons_append, List.nil_append] at G
  refine Lg.hideM G (x := Str.ofString "datum") (v := .ref x) rfl fun m0 hm0 G0 => ?_
  clear G
  (repeat' ((((fail_if_success (with_reducible refine r_stopB ?_)); (fail_if_success (with_reducible refine r_stopE ?_)); (first | k_extra "w" | ((with_reducible refine' r_nameC ?q9G ?q9v ?q9m ?q9o ?q9a ?q9b ?q9c ?_); (case q9G => assumption); (case q9v | q9a | q9b => exact rfl); (case q9m => k_extra "mem"); (case q9o => first | assumption | exact rfl); (case q9c => decide)) | with_reducible refine' wpAny_Slice ?_ | ((with_reducible refine' r_gL ?q9G ?q9n ?q9m ?q9v ?q9a ?q9b ?q9c ?_); (case q9G | q9n => assumption); (case q9m => k_extra "mem"); (case q9v => assumption); (case q9a | q9b => exact rfl); (case q9c => decide)) | ((with_reducible refine' r_gK ?q9G ?q9X ?q9e ?q9g ?q9a ?q9b ?q9c ?_); (case q9G | q9X => assumption); (case q9g | q9a | q9b => exact rfl); (case q9e => k_is); (case q9c => decide)) | ((with_reducible refine' r_gC ?q9G ?q9v ?q9m ?q9o ?q9a ?q9b ?q9c ?_); (case q9G => assumption); (case q9v | q9a | q9b => exact rfl); (case q9m => k_extra "mem"); (case q9o => first | assumption | exact rfl); (case q9c => decide)) | ((with_reducible refine' r_alc ?q9w ?q9c ?q9k ?q9n ?q9s ?_); (case q9w | q9c | q9k => exact rfl); (case q9n => decide); (case q9s => (intro _; exact rfl))) | ((with_reducible refine' Assign_Tuple_swapped ?_ ?q9hs ?q9hw); rotate_left; (case q9hs | q9hw => exact rfl)) | ((with_reducible refine' r_unpackI ?q9a ?q9G ?q9m ?q9n ?_); (case q9a | q9G => assumption); (case q9m => k_extra "mem"); (case q9n => exact rfl); intro _ _) | ((with_reducible show wpAny _ _ (PySem.assignInOrder (List.map _ _) _) _ _ _); refine' r_swap2 ?_) | k_extra "while" | with_reducible refine' evalPart_none_step ?_ | with_reducible refine' evalPart_some_step ?_ | with_reducible refine' GM.join ?_ | (with_reducible refine' lt_int ?_) | (with_reducible refine' r_add ?_ <;> intro _ _) | ((with_reducible refine' r_addStr ?q9z ?_); (case q9z => k_extra "size"); intro _ _))))))
  by_cases c : 0 ≤ lev ∧ lev ≤ dep
  · have c1 := c.1
    have c2 := c.2
    (repeat' ((first | k_extra "w" | ((with_reducible refine' r_nameC ?q9G ?q9v ?q9m ?q9o ?q9a ?q9b ?q9c ?_); (case q9G => assumption); (case q9v | q9a | q9b => exact rfl); (case q9m => k_extra "mem"); (case q9o => first | assumption | exact rfl); (case q9c => decide)) | with_reducible refine' wpAny_Slice ?_ | ((with_reducible refine' r_gL ?q9G ?q9n ?q9m ?q9v ?q9a ?q9b ?q9c ?_); (case q9G | q9n => assumption); (case q9m => k_extra "mem"); (case q9v => assumption); (case q9a | q9b => exact rfl); (case q9c => decide)) | ((with_reducible refine' r_gK ?q9G ?q9X ?q9e ?q9g ?q9a ?q9b ?q9c ?_); (case q9G | q9X => assumption); (case q9g | q9a | q9b => exact rfl); (case q9e => k_is); (case q9c => decide)) | ((with_reducible refine' r_gC ?q9G ?q9v ?q9m ?q9o ?q9a ?q9b ?q9c ?_); (case q9G => assumption); (case q9v | q9a | q9b => exact rfl); (case q9m => k_extra "mem"); (case q9o => first | assumption | exact rfl); (case q9c => decide)) | ((with_reducible refine' r_alc ?q9w ?q9c ?q9k ?q9n ?q9s ?_); (case q9w | q9c | q9k => exact rfl); (case q9n => decide); (case q9s => (intro _; exact rfl))) | ((with_reducible refine' Assign_Tuple_swapped ?_ ?q9hs ?q9hw); rotate_left; (case q9hs | q9hw => exact rfl)) | ((with_reducible refine' r_unpackI ?q9a ?q9G ?q9m ?q9n ?_); (case q9a | q9G => assumption); (case q9m => k_extra "mem"); (case q9n => exact rfl); intro _ _) | ((with_reducible show wpAny _ _ (PySem.assignInOrder (List.map _ _) _) _ _ _); refine' r_swap2 ?_) | k_extra "while" | with_reducible refine' evalPart_none_step ?_ | with_reducible refine' evalPart_some_step ?_ | with_reducible refine' GM.join ?_ | (with_reducible refine' lt_int ?_) | (with_reducible refine' r_add ?_ <;> intro _ _) | ((with_reducible refine' r_addStr ?q9z ?_); (case q9z => k_extra "size"); intro _ _))))
    exact hQ _ _ <| r_backP (by assumption) ⟨_, _, rfl, rfl, by rw [txt_vec, if_pos c]; decide +kernel⟩ (by k_extra "sel")
  have cc : ¬ 0 ≤ lev ∨ (0 ≤ lev ∧ ¬ lev ≤ dep) := by omega
  rw [txt_vec, if_neg c] at hQ
  refine cutV (by assumption) (fun fl nw => fl = Flow.next ∧ nw = (L + 4, o1) :: (L + 3, o2) :: (L + 2, o3) :: (L + 1, o4) :: rest) ?_ ?_
  · intro BQ hBQ
    rcases cc with c1 | ⟨c1, c2⟩ <;> ((repeat' ((first | k_extra "w" | ((with_reducible refine' r_nameC ?q9G ?q9v ?q9m ?q9o ?q9a ?q9b ?q9c ?_); (case q9G => assumption); (case q9v | q9a | q9b => exact rfl); (case q9m => k_extra "mem"); (case q9o => first | assumption | exact rfl); (case q9c => decide)) | with_reducible refine' wpAny_Slice ?_ | ((with_reducible refine' r_gL ?q9G ?q9n ?q9m ?q9v ?q9a ?q9b ?q9c ?_); (case q9G | q9n => assumption); (case q9m => k_extra "mem"); (case q9v => assumption); (case q9a | q9b => exact rfl); (case q9c => decide)) | ((with_reducible refine' r_gK ?q9G ?q9X ?q9e ?q9g ?q9a ?q9b ?q9c ?_); (case q9G | q9X => assumption); (case q9g | q9a | q9b => exact rfl); (case q9e => k_is); (case q9c => decide)) | ((with_reducible refine' r_gC ?q9G ?q9v ?q9m ?q9o ?q9a ?q9b ?q9c ?_); (case q9G => assumption); (case q9v | q9a | q9b => exact rfl); (case q9m => k_extra "mem"); (case q9o => first | assumption | exact rfl); (case q9c => decide)) | ((with_reducible refine' r_alc ?q9w ?q9c ?q9k ?q9n ?q9s ?_); (case q9w | q9c | q9k => exact rfl); (case q9n => decide); (case q9s => (intro _; exact rfl))) | ((with_reducible refine' Assign_Tuple_swapped ?_ ?q9hs ?q9hw); rotate_left; (case q9hs | q9hw => exact rfl)) | ((with_reducible refine' r_unpackI ?q9a ?q9G ?q9m ?q9n ?_); (case q9a | q9G => assumption); (case q9m => k_extra "mem"); (case q9n => exact rfl); intro _ _) | ((with_reducible show wpAny _ _ (PySem.assignInOrder (List.map _ _) _) _ _ _); refine' r_swap2 ?_) | k_extra "while" | with_reducible refine' evalPart_none_step ?_ | with_reducible refine' evalPart_some_step ?_ | with_reducible refine' GM.join ?_ | (with_reducible refine' lt_int ?_) | (with_reducible refine' r_add ?_ <;> intro _ _) | ((with_reducible refine' r_addStr ?q9z ?_); (case q9z => k_extra "size"); intro _ _)))); exact hBQ _ _ _ _ ⟨rfl, rfl⟩ (by assumption))
  rintro fl nw h' t' ⟨rfl, rfl⟩ G
  (repeat' ((((fail_if_success (with_reducible refine r_stopB ?_)); (fail_if_success (with_reducible refine r_stopE ?_)); (first | k_extra "w" | ((with_reducible refine' r_nameC ?q9G ?q9v ?q9m ?q9o ?q9a ?q9b ?q9c ?_); (case q9G => assumption); (case q9v | q9a | q9b => exact rfl); (case q9m => k_extra "mem"); (case q9o => first | assumption | exact rfl); (case q9c => decide)) | with_reducible refine' wpAny_Slice ?_ | ((with_reducible refine' r_gL ?q9G ?q9n ?q9m ?q9v ?q9a ?q9b ?q9c ?_); (case q9G | q9n => assumption); (case q9m => k_extra "mem"); (case q9v => assumption); (case q9a | q9b => exact rfl); (case q9c => decide)) | ((with_reducible refine' r_gK ?q9G ?q9X ?q9e ?q9g ?q9a ?q9b ?q9c ?_); (case q9G | q9X => assumption); (case q9g | q9a | q9b => exact rfl); (case q9e => k_is); (case q9c => decide)) | ((with_reducible refine' r_gC ?q9G ?q9v ?q9m ?q9o ?q9a ?q9b ?q9c ?_); (case q9G => assumption); (case q9v | q9a | q9b => exact rfl); (case q9m => k_extra "mem"); (case q9o => first | assumption | exact rfl); (case q9c => decide)) | ((with_reducible refine' r_alc ?q9w ?q9c ?q9k ?q9n ?q9s ?_); (case q9w | q9c | q9k => exact rfl); (case q9n => decide); (case q9s => (intro _; exact rfl))) | ((with_reducible refine' Assign_Tuple_swapped ?_ ?q9hs ?q9hw); rotate_left; (case q9hs | q9hw => exact rfl)) | ((with_reducible refine' r_unpackI ?q9a ?q9G ?q9m ?q9n ?_); (case q9a | q9G => assumption); (case q9m => k_extra "mem"); (case q9n => exact rfl); intro _ _) | ((with_reducible show wpAny _ _ (PySem.assignInOrder (List.map _ _) _) _ _ _); refine' r_swap2 ?_) | k_extra "while" | with_reducible refine' evalPart_none_step ?_ | with_reducible refine' evalPart_some_step ?_ | with_reducible refine' GM.join ?_ | (with_reducible refine' lt_int ?_) | (with_reducible refine' r_add ?_ <;> intro _ _) | ((with_reducible refine' r_addStr ?q9z ?_); (case q9z => k_extra "size"); intro _ _))))))
  refine r_wturn ?_
  (repeat' ((((fail_if_success (with_reducible refine r_stopB ?_)); (fail_if_success (with_reducible refine r_stopE ?_)); (first | k_extra "w" | ((with_reducible refine' r_nameC ?q9G ?q9v ?q9m ?q9o ?q9a ?q9b ?q9c ?_); (case q9G => assumption); (case q9v | q9a | q9b => exact rfl); (case q9m => k_extra "mem"); (case q9o => first | assumption | exact rfl); (case q9c => decide)) | with_reducible refine' wpAny_Slice ?_ | ((with_reducible refine' r_gL ?q9G ?q9n ?q9m ?q9v ?q9a ?q9b ?q9c ?_); (case q9G | q9n => assumption); (case q9m => k_extra "mem"); (case q9v => assumption); (case q9a | q9b => exact rfl); (case q9c => decide)) | ((with_reducible refine' r_gK ?q9G ?q9X ?q9e ?q9g ?q9a ?q9b ?q9c ?_); (case q9G | q9X => assumption); (case q9g | q9a | q9b => exact rfl); (case q9e => k_is); (case q9c => decide)) | ((with_reducible refine' r_gC ?q9G ?q9v ?q9m ?q9o ?q9a ?q9b ?q9c ?_); (case q9G => assumption); (case q9v | q9a | q9b => exact rfl); (case q9m => k_extra "mem"); (case q9o => first | assumption | exact rfl); (case q9c => decide)) | ((with_reducible refine' r_alc ?q9w ?q9c ?q9k ?q9n ?q9s ?_); (case q9w | q9c | q9k => exact rfl); (case q9n => decide); (case q9s => (intro _; exact rfl))) | ((with_reducible refine' Assign_Tuple_swapped ?_ ?q9hs ?q9hw); rotate_left; (case q9hs | q9hw => exact rfl)) | ((with_reducible refine' r_unpackI ?q9a ?q9G ?q9m ?q9n ?_); (case q9a | q9G => assumption); (case q9m => k_extra "mem"); (case q9n => exact rfl); intro _ _) | ((with_reducible show wpAny _ _ (PySem.assignInOrder (List.map _ _) _) _ _ _); refine' r_swap2 ?_) | k_extra "while" | with_reducible refine' evalPart_none_step ?_ | with_reducible refine' evalPart_some_step ?_ | with_reducible refine' GM.join ?_ | (with_reducible refine' lt_int ?_) | (with_reducible refine' r_add ?_ <;> intro _ _) | ((with_reducible refine' r_addStr ?q9z ?_); (case q9z => k_extra "size"); intro _ _))))))
  have G0 : Lg h₀ L _ _ ((L + 4, o1) :: (L + 3, o2) :: (L + 2, o3) :: (L + 1, o4) :: rest) := Lg.sel (by assumption) (by k_extra "sel")
  refine cutV (by assumption) (fun v nw => ∃ m u, v = .str m u ∧ codesOf m = quoteOf n ds ∧ nw = ((L+4,o1)::(L+3,o2)::(L+2,o3)::(L+1,o4)::rest)) ?_ ?_
  · intro BQ hBQ
    by_cases h2 : ts.length = 2
    · obtain ⟨d0, d1, rfl⟩ := two_of (ht.symm.trans h2)
      obtain ⟨v0, v1, rfl⟩ := two_of h2
      (repeat' ((first | k_extra "w" | ((with_reducible refine' r_nameC ?q9G ?q9v ?q9m ?q9o ?q9a ?q9b ?q9c ?_); (case q9G => assumption); (case q9v | q9a | q9b => exact rfl); (case q9m => k_extra "mem"); (case q9o => first | assumption | exact rfl); (case q9c => decide)) | with_reducible refine' wpAny_Slice ?_ | ((with_reducible refine' r_gL ?q9G ?q9n ?q9m ?q9v ?q9a ?q9b ?q9c ?_); (case q9G | q9n => assumption); (case q9m => k_extra "mem"); (case q9v => assumption); (case q9a | q9b => exact rfl); (case q9c => decide)) | ((with_reducible refine' r_gK ?q9G ?q9X ?q9e ?q9g ?q9a ?q9b ?q9c ?_); (case q9G | q9X => assumption); (case q9g | q9a | q9b => exact rfl); (case q9e => k_is); (case q9c => decide)) | ((with_reducible refine' r_gC ?q9G ?q9v ?q9m ?q9o ?q9a ?q9b ?q9c ?_); (case q9G => assumption); (case q9v | q9a | q9b => exact rfl); (case q9m => k_extra "mem"); (case q9o => first | assumption | exact rfl); (case q9c => decide)) | ((with_reducible refine' r_alc ?q9w ?q9c ?q9k ?q9n ?q9s ?_); (case q9w | q9c | q9k => exact rfl); (case q9n => decide); (case q9s => (intro _; exact rfl))) | ((with_reducible refine' Assign_Tuple_swapped ?_ ?q9hs ?q9hw); rotate_left; (case q9hs | q9hw => exact rfl)) | ((with_reducible refine' r_unpackI ?q9a ?q9G ?q9m ?q9n ?_); (case q9a | q9G => assumption); (case q9m => k_extra "mem"); (case q9n => exact rfl); intro _ _) | ((with_reducible show wpAny _ _ (PySem.assignInOrder (List.map _ _) _) _ _ _); refine' r_swap2 ?_) | k_extra "while" | with_reducible refine' evalPart_none_step ?_ | with_reducible refine' evalPart_some_step ?_ | with_reducible refine' GM.join ?_ | (with_reducible refine' lt_int ?_) | (with_reducible refine' r_add ?_ <;> intro _ _) | ((with_reducible refine' r_addStr ?q9z ?_); (case q9z => k_extra "size"); intro _ _))))
      refine r_item (by assumption) (by k_extra "mem") (by decide) (by decide) (v := v0) rfl (by with_unfolding_all rfl) ?_
      rcases rel_isV n b v0 d0 (it 0 v0 d0 rfl rfl) with ⟨s, sx, k3, t3, num, hs, rfl, S⟩ | ⟨hs, H⟩
      · have hq : quoteOf n [d0, d1] = s.mark := by show markOf n d0 = _; unfold markOf; rw [hs]
        have S2 := S
        (repeat' ((first | k_extra "w" | ((with_reducible refine' r_nameC ?q9G ?q9v ?q9m ?q9o ?q9a ?q9b ?q9c ?_); (case q9G => assumption); (case q9v | q9a | q9b => exact rfl); (case q9m => k_extra "mem"); (case q9o => first | assumption | exact rfl); (case q9c => decide)) | with_reducible refine' wpAny_Slice ?_ | ((with_reducible refine' r_gL ?q9G ?q9n ?q9m ?q9v ?q9a ?q9b ?q9c ?_); (case q9G | q9n => assumption); (case q9m => k_extra "mem"); (case q9v => assumption); (case q9a | q9b => exact rfl); (case q9c => decide)) | ((with_reducible refine' r_gK ?q9G ?q9X ?q9e ?q9g ?q9a ?q9b ?q9c ?_); (case q9G | q9X => assumption); (case q9g | q9a | q9b => exact rfl); (case q9e => k_is); (case q9c => decide)) | ((with_reducible refine' r_gC ?q9G ?q9v ?q9m ?q9o ?q9a ?q9b ?q9c ?_); (case q9G => assumption); (case q9v | q9a | q9b => exact rfl); (case q9m => k_extra "mem"); (case q9o => first | assumption | exact rfl); (case q9c => decide)) | ((with_reducible refine' r_alc ?q9w ?q9c ?q9k ?q9n ?q9s ?_); (case q9w | q9c | q9k => exact rfl); (case q9n => decide); (case q9s => (intro _; exact rfl))) | ((with_reducible refine' Assign_Tuple_swapped ?_ ?q9hs ?q9hw); rotate_left; (case q9hs | q9hw => exact rfl)) | ((with_reducible refine' r_unpackI ?q9a ?q9G ?q9m ?q9n ?_); (case q9a | q9G => assumption); (case q9m => k_extra "mem"); (case q9n => exact rfl); intro _ _) | ((with_reducible show wpAny _ _ (PySem.assignInOrder (List.map _ _) _) _ _ _); refine' r_swap2 ?_) | k_extra "while" | with_reducible refine' evalPart_none_step ?_ | with_reducible refine' evalPart_some_step ?_ | with_reducible refine' GM.join ?_ | (with_reducible refine' lt_int ?_) | (with_reducible refine' r_add ?_ <;> intro _ _) | ((with_reducible refine' r_addStr ?q9z ?_); (case q9z => k_extra "size"); intro _ _))))
        refine r_dict (pairs := [(_, _), (_, _), (_, _)]) (by assumption) (by assumption) rfl (by simp) (by simp) fun D9 h9 G lt9 low9 => ?_
        refine r_dpair (wpAny_bind (wpAny_fresh (wpAny_pure (wpAny_bind ?_))))
        (repeat' ((first | k_extra "w" | ((with_reducible refine' r_nameC ?q9G ?q9v ?q9m ?q9o ?q9a ?q9b ?q9c ?_); (case q9G => assumption); (case q9v | q9a | q9b => exact rfl); (case q9m => k_extra "mem"); (case q9o => first | assumption | exact rfl); (case q9c => decide)) | with_reducible refine' wpAny_Slice ?_ | ((with_reducible refine' r_gL ?q9G ?q9n ?q9m ?q9v ?q9a ?q9b ?q9c ?_); (case q9G | q9n => assumption); (case q9m => k_extra "mem"); (case q9v => assumption); (case q9a | q9b => exact rfl); (case q9c => decide)) | ((with_reducible refine' r_gK ?q9G ?q9X ?q9e ?q9g ?q9a ?q9b ?q9c ?_); (case q9G | q9X => assumption); (case q9g | q9a | q9b => exact rfl); (case q9e => k_is); (case q9c => decide)) | ((with_reducible refine' r_gC ?q9G ?q9v ?q9m ?q9o ?q9a ?q9b ?q9c ?_); (case q9G => assumption); (case q9v | q9a | q9b => exact rfl); (case q9m => k_extra "mem"); (case q9o => first | assumption | exact rfl); (case q9c => decide)) | ((with_reducible refine' r_alc ?q9w ?q9c ?q9k ?q9n ?q9s ?_); (case q9w | q9c | q9k => exact rfl); (case q9n => decide); (case q9s => (intro _; exact rfl))) | ((with_reducible refine' Assign_Tuple_swapped ?_ ?q9hs ?q9hw); rotate_left; (case q9hs | q9hw => exact rfl)) | ((with_reducible refine' r_unpackI ?q9a ?q9G ?q9m ?q9n ?_); (case q9a | q9G => assumption); (case q9m => k_extra "mem"); (case q9n => exact rfl); intro _ _) | ((with_reducible show wpAny _ _ (PySem.assignInOrder (List.map _ _) _) _ _ _); refine' r_swap2 ?_) | k_extra "while" | with_reducible refine' evalPart_none_step ?_ | with_reducible refine' evalPart_some_step ?_ | with_reducible refine' GM.join ?_ | (with_reducible refine' lt_int ?_) | (with_reducible refine' r_add ?_ <;> intro _ _) | ((with_reducible refine' r_addStr ?q9z ?_); (case q9z => k_extra "size"); intro _ _))))
        refine wpAny_bind (wpAny_standAt (wpAny_pure ?_))
        refine r_dpair (wpAny_bind (wpAny_fresh (wpAny_pure (wpAny_bind ?_))))
        (repeat' ((first | k_extra "w" | ((with_reducible refine' r_nameC ?q9G ?q9v ?q9m ?q9o ?q9a ?q9b ?q9c ?_); (case q9G => assumption); (case q9v | q9a | q9b => exact rfl); (case q9m => k_extra "mem"); (case q9o => first | assumption | exact rfl); (case q9c => decide)) | with_reducible refine' wpAny_Slice ?_ | ((with_reducible refine' r_gL ?q9G ?q9n ?q9m ?q9v ?q9a ?q9b ?q9c ?_); (case q9G | q9n => assumption); (case q9m => k_extra "mem"); (case q9v => assumption); (case q9a | q9b => exact rfl); (case q9c => decide)) | ((with_reducible refine' r_gK ?q9G ?q9X ?q9e ?q9g ?q9a ?q9b ?q9c ?_); (case q9G | q9X => assumption); (case q9g | q9a | q9b => exact rfl); (case q9e => k_is); (case q9c => decide)) | ((with_reducible refine' r_gC ?q9G ?q9v ?q9m ?q9o ?q9a ?q9b ?q9c ?_); (case q9G => assumption); (case q9v | q9a | q9b => exact rfl); (case q9m => k_extra "mem"); (case q9o => first | assumption | exact rfl); (case q9c => decide)) | ((with_reducible refine' r_alc ?q9w ?q9c ?q9k ?q9n ?q9s ?_); (case q9w | q9c | q9k => exact rfl); (case q9n => decide); (case q9s => (intro _; exact rfl))) | ((with_reducible refine' Assign_Tuple_swapped ?_ ?q9hs ?q9hw); rotate_left; (case q9hs | q9hw => exact rfl)) | ((with_reducible refine' r_unpackI ?q9a ?q9G ?q9m ?q9n ?_); (case q9a | q9G => assumption); (case q9m => k_extra "mem"); (case q9n => exact rfl); intro _ _) | ((with_reducible show wpAny _ _ (PySem.assignInOrder (List.map _ _) _) _ _ _); refine' r_swap2 ?_) | k_extra "while" | with_reducible refine' evalPart_none_step ?_ | with_reducible refine' evalPart_some_step ?_ | with_reducible refine' GM.join ?_ | (with_reducible refine' lt_int ?_) | (with_reducible refine' r_add ?_ <;> intro _ _) | ((with_reducible refine' r_addStr ?q9z ?_); (case q9z => k_extra "size"); intro _ _))))
        refine wpAny_bind (wpAny_standAt (wpAny_pure ?_))
        refine r_dpair (wpAny_bind (wpAny_fresh (wpAny_pure (wpAny_bind ?_))))
        (repeat' ((first | k_extra "w" | ((with_reducible refine' r_nameC ?q9G ?q9v ?q9m ?q9o ?q9a ?q9b ?q9c ?_); (case q9G => assumption); (case q9v | q9a | q9b => exact rfl); (case q9m => k_extra "mem"); (case q9o => first | assumption | exact rfl); (case q9c => decide)) | with_reducible refine' wpAny_Slice ?_ | ((with_reducible refine' r_gL ?q9G ?q9n ?q9m ?q9v ?q9a ?q9b ?q9c ?_); (case q9G | q9n => assumption); (case q9m => k_extra "mem"); (case q9v => assumption); (case q9a | q9b => exact rfl); (case q9c => decide)) | ((with_reducible refine' r_gK ?q9G ?q9X ?q9e ?q9g ?q9a ?q9b ?q9c ?_); (case q9G | q9X => assumption); (case q9g | q9a | q9b => exact rfl); (case q9e => k_is); (case q9c => decide)) | ((with_reducible refine' r_gC ?q9G ?q9v ?q9m ?q9o ?q9a ?q9b ?q9c ?_); (case q9G => assumption); (case q9v | q9a | q9b => exact rfl); (case q9m => k_extra "mem"); (case q9o => first | assumption | exact rfl); (case q9c => decide)) | ((with_reducible refine' r_alc ?q9w ?q9c ?q9k ?q9n ?q9s ?_); (case q9w | q9c | q9k => exact rfl); (case q9n => decide); (case q9s => (intro _; exact rfl))) | ((with_reducible refine' Assign_Tuple_swapped ?_ ?q9hs ?q9hw); rotate_left; (case q9hs | q9hw => exact rfl)) | ((with_reducible refine' r_unpackI ?q9a ?q9G ?q9m ?q9n ?_); (case q9a | q9G => assumption); (case q9m => k_extra "mem"); (case q9n => exact rfl); intro _ _) | ((with_reducible show wpAny _ _ (PySem.assignInOrder (List.map _ _) _) _ _ _); refine' r_swap2 ?_) | k_extra "while" | with_reducible refine' evalPart_none_step ?_ | with_reducible refine' evalPart_some_step ?_ | with_reducible refine' GM.join ?_ | (with_reducible refine' lt_int ?_) | (with_reducible refine' r_add ?_ <;> intro _ _) | ((with_reducible refine' r_addStr ?q9z ?_); (case q9z => k_extra "size"); intro _ _))))
        refine wpAny_bind (wpAny_standAt (wpAny_pure ?_))
        refine r_dpairs ?_
        refine ⟨[(Str.ofString "quote", .str (Str.ofString "'") _), (Str.ofString "function", .str (Str.ofString "#'") _), (Str.ofString ",@", .str (Str.ofString ",@") _)], ⟨strKind_is _ w _ _, rfl, strKind_is _ w _ _, rfl, strKind_is _ w _ _, rfl, trivial⟩, Heap.dictOf_iff.mpr ⟨_, G.get (.head _), kd_empty⟩, fun h2 hm hs2 => ?_⟩
        obtain ⟨oD, ho, hD⟩ := Heap.dictOf_iff.mp hm
        have G := G.put .head hs2 ho
        obtain ⟨hd1, hd2⟩ : oD.cls = .type "dict" ∧ oD.dict = none := by
          obtain ⟨es, ep, ⟨a, b, c⟩, _⟩ := hD
          exact ⟨a, b⟩
        refine' r_dmeth ?G ?m ?c ?d PySem.F.slot_dict_get PySem.F.type_dict_get ?_
        case G => assumption
        case m => exact .head _
        case c => exact hd1
        case d => exact hd2
        (repeat' ((first | k_extra "w" | ((with_reducible refine' r_nameC ?q9G ?q9v ?q9m ?q9o ?q9a ?q9b ?q9c ?_); (case q9G => assumption); (case q9v | q9a | q9b => exact rfl); (case q9m => k_extra "mem"); (case q9o => first | assumption | exact rfl); (case q9c => decide)) | with_reducible refine' wpAny_Slice ?_ | ((with_reducible refine' r_gL ?q9G ?q9n ?q9m ?q9v ?q9a ?q9b ?q9c ?_); (case q9G | q9n => assumption); (case q9m => k_extra "mem"); (case q9v => assumption); (case q9a | q9b => exact rfl); (case q9c => decide)) | ((with_reducible refine' r_gK ?q9G ?q9X ?q9e ?q9g ?q9a ?q9b ?q9c ?_); (case q9G | q9X => assumption); (case q9g | q9a | q9b => exact rfl); (case q9e => k_is); (case q9c => decide)) | ((with_reducible refine' r_gC ?q9G ?q9v ?q9m ?q9o ?q9a ?q9b ?q9c ?_); (case q9G => assumption); (case q9v | q9a | q9b => exact rfl); (case q9m => k_extra "mem"); (case q9o => first | assumption | exact rfl); (case q9c => decide)) | ((with_reducible refine' r_alc ?q9w ?q9c ?q9k ?q9n ?q9s ?_); (case q9w | q9c | q9k => exact rfl); (case q9n => decide); (case q9s => (intro _; exact rfl))) | ((with_reducible refine' Assign_Tuple_swapped ?_ ?q9hs ?q9hw); rotate_left; (case q9hs | q9hw => exact rfl)) | ((with_reducible refine' r_unpackI ?q9a ?q9G ?q9m ?q9n ?_); (case q9a | q9G => assumption); (case q9m => k_extra "mem"); (case q9n => exact rfl); intro _ _) | ((with_reducible show wpAny _ _ (PySem.assignInOrder (List.map _ _) _) _ _ _); refine' r_swap2 ?_) | k_extra "while" | with_reducible refine' evalPart_none_step ?_ | with_reducible refine' evalPart_some_step ?_ | with_reducible refine' GM.join ?_ | (with_reducible refine' lt_int ?_) | (with_reducible refine' r_add ?_ <;> intro _ _) | ((with_reducible refine' r_addStr ?q9z ?_); (case q9z => k_extra "size"); intro _ _))))
        refine r_item (by assumption) (by k_extra "mem") (by decide) (by decide) (v := .ref sx) rfl (by with_unfolding_all rfl) ?_
        (repeat' ((first | k_extra "w" | ((with_reducible refine' r_nameC ?q9G ?q9v ?q9m ?q9o ?q9a ?q9b ?q9c ?_); (case q9G => assumption); (case q9v | q9a | q9b => exact rfl); (case q9m => k_extra "mem"); (case q9o => first | assumption | exact rfl); (case q9c => decide)) | with_reducible refine' wpAny_Slice ?_ | ((with_reducible refine' r_gL ?q9G ?q9n ?q9m ?q9v ?q9a ?q9b ?q9c ?_); (case q9G | q9n => assumption); (case q9m => k_extra "mem"); (case q9v => assumption); (case q9a | q9b => exact rfl); (case q9c => decide)) | ((with_reducible refine' r_gK ?q9G ?q9X ?q9e ?q9g ?q9a ?q9b ?q9c ?_); (case q9G | q9X => assumption); (case q9g | q9a | q9b => exact rfl); (case q9e => k_is); (case q9c => decide)) | ((with_reducible refine' r_gC ?q9G ?q9v ?q9m ?q9o ?q9a ?q9b ?q9c ?_); (case q9G => assumption); (case q9v | q9a | q9b => exact rfl); (case q9m => k_extra "mem"); (case q9o => first | assumption | exact rfl); (case q9c => decide)) | ((with_reducible refine' r_alc ?q9w ?q9c ?q9k ?q9n ?q9s ?_); (case q9w | q9c | q9k => exact rfl); (case q9n => decide); (case q9s => (intro _; exact rfl))) | ((with_reducible refine' Assign_Tuple_swapped ?_ ?q9hs ?q9hw); rotate_left; (case q9hs | q9hw => exact rfl)) | ((with_reducible refine' r_unpackI ?q9a ?q9G ?q9m ?q9n ?_); (case q9a | q9G => assumption); (case q9m => k_extra "mem"); (case q9n => exact rfl); intro _ _) | ((with_reducible show wpAny _ _ (PySem.assignInOrder (List.map _ _) _) _ _ _); refine' r_swap2 ?_) | k_extra "while" | with_reducible refine' evalPart_none_step ?_ | with_reducible refine' evalPart_some_step ?_ | with_reducible refine' GM.join ?_ | (with_reducible refine' lt_int ?_) | (with_reducible refine' r_add ?_ <;> intro _ _) | ((with_reducible refine' r_addStr ?q9z ?_); (case q9z => k_extra "size"); intro _ _))))
        refine r_dget (by assumption) (by assumption) (.head _) hD low9 ?_
        obtain ⟨u9, e9⟩ := mark_look s
        exact hBQ _ _ _ _ ⟨markStr s, u9, e9, by rw [hq]; exact mark_codes s, rfl⟩ (Lg.sel (by assumption) (by k_extra "sel"))
      · have hq : quoteOf n [d0, d1] = [] := by show markOf n d0 = _; unfold markOf; rw [hs]
        have H2 := H.mono (news' := ((L+4,o1)::(L+3,o2)::(L+2,o3)::(L+1,o4)::rest)) (by k_extra "sub")
        (repeat' ((first | k_extra "w" | ((with_reducible refine' r_nameC ?q9G ?q9v ?q9m ?q9o ?q9a ?q9b ?q9c ?_); (case q9G => assumption); (case q9v | q9a | q9b => exact rfl); (case q9m => k_extra "mem"); (case q9o => first | assumption | exact rfl); (case q9c => decide)) | with_reducible refine' wpAny_Slice ?_ | ((with_reducible refine' r_gL ?q9G ?q9n ?q9m ?q9v ?q9a ?q9b ?q9c ?_); (case q9G | q9n => assumption); (case q9m => k_extra "mem"); (case q9v => assumption); (case q9a | q9b => exact rfl); (case q9c => decide)) | ((with_reducible refine' r_gK ?q9G ?q9X ?q9e ?q9g ?q9a ?q9b ?q9c ?_); (case q9G | q9X => assumption); (case q9g | q9a | q9b => exact rfl); (case q9e => k_is); (case q9c => decide)) | ((with_reducible refine' r_gC ?q9G ?q9v ?q9m ?q9o ?q9a ?q9b ?q9c ?_); (case q9G => assumption); (case q9v | q9a | q9b => exact rfl); (case q9m => k_extra "mem"); (case q9o => first | assumption | exact rfl); (case q9c => decide)) | ((with_reducible refine' r_alc ?q9w ?q9c ?q9k ?q9n ?q9s ?_); (case q9w | q9c | q9k => exact rfl); (case q9n => decide); (case q9s => (intro _; exact rfl))) | ((with_reducible refine' Assign_Tuple_swapped ?_ ?q9hs ?q9hw); rotate_left; (case q9hs | q9hw => exact rfl)) | ((with_reducible refine' r_unpackI ?q9a ?q9G ?q9m ?q9n ?_); (case q9a | q9G => assumption); (case q9m => k_extra "mem"); (case q9n => exact rfl); intro _ _) | ((with_reducible show wpAny _ _ (PySem.assignInOrder (List.map _ _) _) _ _ _); refine' r_swap2 ?_) | k_extra "while" | with_reducible refine' evalPart_none_step ?_ | with_reducible refine' evalPart_some_step ?_ | with_reducible refine' GM.join ?_ | (with_reducible refine' lt_int ?_) | (with_reducible refine' r_add ?_ <;> intro _ _) | ((with_reducible refine' r_addStr ?q9z ?_); (case q9z => k_extra "size"); intro _ _))))
        exact hBQ _ _ _ _ ⟨_, _, rfl, by rw [hq]; decide +kernel, rfl⟩ (Lg.sel (by assumption) (by k_extra "sel"))
    · have hq : quoteOf n ds = [] := Decidable.byContradiction fun z => h2 (ht.trans (quote_two z))
      (repeat' ((first | k_extra "w" | ((with_reducible refine' r_nameC ?q9G ?q9v ?q9m ?q9o ?q9a ?q9b ?q9c ?_); (case q9G => assumption); (case q9v | q9a | q9b => exact rfl); (case q9m => k_extra "mem"); (case q9o => first | assumption | exact rfl); (case q9c => decide)) | with_reducible refine' wpAny_Slice ?_ | ((with_reducible refine' r_gL ?q9G ?q9n ?q9m ?q9v ?q9a ?q9b ?q9c ?_); (case q9G | q9n => assumption); (case q9m => k_extra "mem"); (case q9v => assumption); (case q9a | q9b => exact rfl); (case q9c => decide)) | ((with_reducible refine' r_gK ?q9G ?q9X ?q9e ?q9g ?q9a ?q9b ?q9c ?_); (case q9G | q9X => assumption); (case q9g | q9a | q9b => exact rfl); (case q9e => k_is); (case q9c => decide)) | ((with_reducible refine' r_gC ?q9G ?q9v ?q9m ?q9o ?q9a ?q9b ?q9c ?_); (case q9G => assumption); (case q9v | q9a | q9b => exact rfl); (case q9m => k_extra "mem"); (case q9o => first | assumption | exact rfl); (case q9c => decide)) | ((with_reducible refine' r_alc ?q9w ?q9c ?q9k ?q9n ?q9s ?_); (case q9w | q9c | q9k => exact rfl); (case q9n => decide); (case q9s => (intro _; exact rfl))) | ((with_reducible refine' Assign_Tuple_swapped ?_ ?q9hs ?q9hw); rotate_left; (case q9hs | q9hw => exact rfl)) | ((with_reducible refine' r_unpackI ?q9a ?q9G ?q9m ?q9n ?_); (case q9a | q9G => assumption); (case q9m => k_extra "mem"); (case q9n => exact rfl); intro _ _) | ((with_reducible show wpAny _ _ (PySem.assignInOrder (List.map _ _) _) _ _ _); refine' r_swap2 ?_) | k_extra "while" | with_reducible refine' evalPart_none_step ?_ | with_reducible refine' evalPart_some_step ?_ | with_reducible refine' GM.join ?_ | (with_reducible refine' lt_int ?_) | (with_reducible refine' r_add ?_ <;> intro _ _) | ((with_reducible refine' r_addStr ?q9z ?_); (case q9z => k_extra "size"); intro _ _))))
      exact hBQ _ _ _ _ ⟨_, _, rfl, by rw [hq]; decide +kernel, rfl⟩ (Lg.sel (by assumption) (by k_extra "sel"))
  rintro v nw h' t' ⟨mk, mu, rfl, hmk, rfl⟩ G
  (repeat' ((((fail_if_success (with_reducible refine r_stopB ?_)); (fail_if_success (with_reducible refine r_stopE ?_)); (first | k_extra "w" | ((with_reducible refine' r_nameC ?q9G ?q9v ?q9m ?q9o ?q9a ?q9b ?q9c ?_); (case q9G => assumption); (case q9v | q9a | q9b => exact rfl); (case q9m => k_extra "mem"); (case q9o => first | assumption | exact rfl); (case q9c => decide)) | with_reducible refine' wpAny_Slice ?_ | ((with_reducible refine' r_gL ?q9G ?q9n ?q9m ?q9v ?q9a ?q9b ?q9c ?_); (case q9G | q9n => assumption); (case q9m => k_extra "mem"); (case q9v => assumption); (case q9a | q9b => exact rfl); (case q9c => decide)) | ((with_reducible refine' r_gK ?q9G ?q9X ?q9e ?q9g ?q9a ?q9b ?q9c ?_); (case q9G | q9X => assumption); (case q9g | q9a | q9b => exact rfl); (case q9e => k_is); (case q9c => decide)) | ((with_reducible refine' r_gC ?q9G ?q9v ?q9m ?q9o ?q9a ?q9b ?q9c ?_); (case q9G => assumption); (case q9v | q9a | q9b => exact rfl); (case q9m => k_extra "mem"); (case q9o => first | assumption | exact rfl); (case q9c => decide)) | ((with_reducible refine' r_alc ?q9w ?q9c ?q9k ?q9n ?q9s ?_); (case q9w | q9c | q9k => exact rfl); (case q9n => decide); (case q9s => (intro _; exact rfl))) | ((with_reducible refine' Assign_Tuple_swapped ?_ ?q9hs ?q9hw); rotate_left; (case q9hs | q9hw => exact rfl)) | ((with_reducible refine' r_unpackI ?q9a ?q9G ?q9m ?q9n ?_); (case q9a | q9G => assumption); (case q9m => k_extra "mem"); (case q9n => exact rfl); intro _ _) | ((with_reducible show wpAny _ _ (PySem.assignInOrder (List.map _ _) _) _ _ _); refine' r_swap2 ?_) | k_extra "while" | with_reducible refine' evalPart_none_step ?_ | with_reducible refine' evalPart_some_step ?_ | with_reducible refine' GM.join ?_ | (with_reducible refine' lt_int ?_) | (with_reducible refine' r_add ?_ <;> intro _ _) | ((with_reducible refine' r_addStr ?q9z ?_); (case q9z => k_extra "size"); intro _ _))))))
  (first | k_extra "w" | ((with_reducible refine' r_nameC ?q9G ?q9v ?q9m ?q9o ?q9a ?q9b ?q9c ?_); (case q9G => assumption); (case q9v | q9a | q9b => exact rfl); (case q9m => k_extra "mem"); (case q9o => first | assumption | exact rfl); (case q9c => decide)) | with_reducible refine' wpAny_Slice ?_ | ((with_reducible refine' r_gL ?q9G ?q9n ?q9m ?q9v ?q9a ?q9b ?q9c ?_); (case q9G | q9n => assumption); (case q9m => k_extra "mem"); (case q9v => assumption); (case q9a | q9b => exact rfl); (case q9c => decide)) | ((with_reducible refine' r_gK ?q9G ?q9X ?q9e ?q9g ?q9a ?q9b ?q9c ?_); (case q9G | q9X => assumption); (case q9g | q9a | q9b => exact rfl); (case q9e => k_is); (case q9c => decide)) | ((with_reducible refine' r_gC ?q9G ?q9v ?q9m ?q9o ?q9a ?q9b ?q9c ?_); (case q9G => assumption); (case q9v | q9a | q9b => exact rfl); (case q9m => k_extra "mem"); (case q9o => first | assumption | exact rfl); (case q9c => decide)) | ((with_reducible refine' r_alc ?q9w ?q9c ?q9k ?q9n ?q9s ?_); (case q9w | q9c | q9k => exact rfl); (case q9n => decide); (case q9s => (intro _; exact rfl))) | ((with_reducible refine' Assign_Tuple_swapped ?_ ?q9hs ?q9hw); rotate_left; (case q9hs | q9hw => exact rfl)) | ((with_reducible refine' r_unpackI ?q9a ?q9G ?q9m ?q9n ?_); (case q9a | q9G => assumption); (case q9m => k_extra "mem"); (case q9n => exact rfl); intro _ _) | ((with_reducible show wpAny _ _ (PySem.assignInOrder (List.map _ _) _) _ _ _); refine' r_swap2 ?_) | k_extra "while" | with_reducible refine' evalPart_none_step ?_ | with_reducible refine' evalPart_some_step ?_ | with_reducible refine' GM.join ?_ | (with_reducible refine' lt_int ?_) | (with_reducible refine' r_add ?_ <;> intro _ _) | ((with_reducible refine' r_addStr ?q9z ?_); (case q9z => k_extra "size"); intro _ _))
  (repeat' ((((fail_if_success (with_reducible refine r_stopB ?_)); (fail_if_success (with_reducible refine r_stopE ?_)); (first | k_extra "w" | ((with_reducible refine' r_nameC ?q9G ?q9v ?q9m ?q9o ?q9a ?q9b ?q9c ?_); (case q9G => assumption); (case q9v | q9a | q9b => exact rfl); (case q9m => k_extra "mem"); (case q9o => first | assumption | exact rfl); (case q9c => decide)) | with_reducible refine' wpAny_Slice ?_ | ((with_reducible refine' r_gL ?q9G ?q9n ?q9m ?q9v ?q9a ?q9b ?q9c ?_); (case q9G | q9n => assumption); (case q9m => k_extra "mem"); (case q9v => assumption); (case q9a | q9b => exact rfl); (case q9c => decide)) | ((with_reducible refine' r_gK ?q9G ?q9X ?q9e ?q9g ?q9a ?q9b ?q9c ?_); (case q9G | q9X => assumption); (case q9g | q9a | q9b => exact rfl); (case q9e => k_is); (case q9c => decide)) | ((with_reducible refine' r_gC ?q9G ?q9v ?q9m ?q9o ?q9a ?q9b ?q9c ?_); (case q9G => assumption); (case q9v | q9a | q9b => exact rfl); (case q9m => k_extra "mem"); (case q9o => first | assumption | exact rfl); (case q9c => decide)) | ((with_reducible refine' r_alc ?q9w ?q9c ?q9k ?q9n ?q9s ?_); (case q9w | q9c | q9k => exact rfl); (case q9n => decide); (case q9s => (intro _; exact rfl))) | ((with_reducible refine' Assign_Tuple_swapped ?_ ?q9hs ?q9hw); rotate_left; (case q9hs | q9hw => exact rfl)) | ((with_reducible refine' r_unpackI ?q9a ?q9G ?q9m ?q9n ?_); (case q9a | q9G => assumption); (case q9m => k_extra "mem"); (case q9n => exact rfl); intro _ _) | ((with_reducible show wpAny _ _ (PySem.assignInOrder (List.map _ _) _) _ _ _); refine' r_swap2 ?_) | k_extra "while" | with_reducible refine' evalPart_none_step ?_ | with_reducible refine' evalPart_some_step ?_ | with_reducible refine' GM.join ?_ | (with_reducible refine' lt_int ?_) | (with_reducible refine' r_add ?_ <;> intro _ _) | ((with_reducible refine' r_addStr ?q9z ?_); (case q9z => k_extra "size"); intro _ _))))))
  refine cutV (by assumption) (fun v nw => ∃ l2 n2 ex, v = .ref l2 ∧ nw = ex ++ ((L+4,o1)::(L+3,o2)::(L+2,o3)::(L+1,o4)::rest) ∧ (l2, listOf (pick len ts).toArray n2) ∈ nw) ?_ ?_
  · intro BQ hBQ
    by_cases hlen : len < 0
    · have e9 : pick len ts = ts := if_pos hlen
      (repeat' ((first | k_extra "w" | ((with_reducible refine' r_nameC ?q9G ?q9v ?q9m ?q9o ?q9a ?q9b ?q9c ?_); (case q9G => assumption); (case q9v | q9a | q9b => exact rfl); (case q9m => k_extra "mem"); (case q9o => first | assumption | exact rfl); (case q9c => decide)) | with_reducible refine' wpAny_Slice ?_ | ((with_reducible refine' r_gL ?q9G ?q9n ?q9m ?q9v ?q9a ?q9b ?q9c ?_); (case q9G | q9n => assumption); (case q9m => k_extra "mem"); (case q9v => assumption); (case q9a | q9b => exact rfl); (case q9c => decide)) | ((with_reducible refine' r_gK ?q9G ?q9X ?q9e ?q9g ?q9a ?q9b ?q9c ?_); (case q9G | q9X => assumption); (case q9g | q9a | q9b => exact rfl); (case q9e => k_is); (case q9c => decide)) | ((with_reducible refine' r_gC ?q9G ?q9v ?q9m ?q9o ?q9a ?q9b ?q9c ?_); (case q9G => assumption); (case q9v | q9a | q9b => exact rfl); (case q9m => k_extra "mem"); (case q9o => first | assumption | exact rfl); (case q9c => decide)) | ((with_reducible refine' r_alc ?q9w ?q9c ?q9k ?q9n ?q9s ?_); (case q9w | q9c | q9k => exact rfl); (case q9n => decide); (case q9s => (intro _; exact rfl))) | ((with_reducible refine' Assign_Tuple_swapped ?_ ?q9hs ?q9hw); rotate_left; (case q9hs | q9hw => exact rfl)) | ((with_reducible refine' r_unpackI ?q9a ?q9G ?q9m ?q9n ?_); (case q9a | q9G => assumption); (case q9m => k_extra "mem"); (case q9n => exact rfl); intro _ _) | ((with_reducible show wpAny _ _ (PySem.assignInOrder (List.map _ _) _) _ _ _); refine' r_swap2 ?_) | k_extra "while" | with_reducible refine' evalPart_none_step ?_ | with_reducible refine' evalPart_some_step ?_ | with_reducible refine' GM.join ?_ | (with_reducible refine' lt_int ?_) | (with_reducible refine' r_add ?_ <;> intro _ _) | ((with_reducible refine' r_addStr ?q9z ?_); (case q9z => k_extra "size"); intro _ _))))
      exact hBQ _ _ _ _ ⟨_, _, [], rfl, rfl, by rw [e9]; k_extra "mem"⟩ (by assumption)
    · have e9 : pick len ts = ts.take len.toNat := if_neg hlen
      (repeat' ((first | k_extra "w" | ((with_reducible refine' r_nameC ?q9G ?q9v ?q9m ?q9o ?q9a ?q9b ?q9c ?_); (case q9G => assumption); (case q9v | q9a | q9b => exact rfl); (case q9m => k_extra "mem"); (case q9o => first | assumption | exact rfl); (case q9c => decide)) | with_reducible refine' wpAny_Slice ?_ | ((with_reducible refine' r_gL ?q9G ?q9n ?q9m ?q9v ?q9a ?q9b ?q9c ?_); (case q9G | q9n => assumption); (case q9m => k_extra "mem"); (case q9v => assumption); (case q9a | q9b => exact rfl); (case q9c => decide)) | ((with_reducible refine' r_gK ?q9G ?q9X ?q9e ?q9g ?q9a ?q9b ?q9c ?_); (case q9G | q9X => assumption); (case q9g | q9a | q9b => exact rfl); (case q9e => k_is); (case q9c => decide)) | ((with_reducible refine' r_gC ?q9G ?q9v ?q9m ?q9o ?q9a ?q9b ?q9c ?_); (case q9G => assumption); (case q9v | q9a | q9b => exact rfl); (case q9m => k_extra "mem"); (case q9o => first | assumption | exact rfl); (case q9c => decide)) | ((with_reducible refine' r_alc ?q9w ?q9c ?q9k ?q9n ?q9s ?_); (case q9w | q9c | q9k => exact rfl); (case q9n => decide); (case q9s => (intro _; exact rfl))) | ((with_reducible refine' Assign_Tuple_swapped ?_ ?q9hs ?q9hw); rotate_left; (case q9hs | q9hw => exact rfl)) | ((with_reducible refine' r_unpackI ?q9a ?q9G ?q9m ?q9n ?_); (case q9a | q9G => assumption); (case q9m => k_extra "mem"); (case q9n => exact rfl); intro _ _) | ((with_reducible show wpAny _ _ (PySem.assignInOrder (List.map _ _) _) _ _ _); refine' r_swap2 ?_) | k_extra "while" | with_reducible refine' evalPart_none_step ?_ | with_reducible refine' evalPart_some_step ?_ | with_reducible refine' GM.join ?_ | (with_reducible refine' lt_int ?_) | (with_reducible refine' r_add ?_ <;> intro _ _) | ((with_reducible refine' r_addStr ?q9z ?_); (case q9z => k_extra "size"); intro _ _))))
      refine r_slList (by assumption) (by k_extra "mem") (by k_extra "le") (by with_unfolding_all rfl) (by intro _; with_unfolding_all rfl) (by k_extra "size") fun D9 h9 G => ?_
      exact hBQ _ _ _ _ ⟨_, _, [(D9, _)], rfl, rfl, by rw [e9]; exact .head _⟩ (by assumption)
  rintro v nw h' t' ⟨l2, n2, ex, rfl, rfl, hl2⟩ G
  refine cmp_list (vs := pick len ts) (fun i ys nw => nw = ex ++ ((L+4,o1)::(L+3,o2)::(L+2,o3)::(L+1,o4)::rest) ∧ ∃ pl : List (Str × Tok), ys = strValues pl ∧ pl.map (fun q => codesOf q.1) = ((pick len ds).take i).map (fun d => txt len lev sh n d (dep + 1))) (by decide) rfl rfl (Ar.hd (by assumption)) (by assumption) (by have := pick_le ts len; have := sizeLine_eq; omega) (fun i ys nw hj => by rw [hj.1]; exact hl2) ⟨rfl, [], rfl, rfl⟩ ?_ (endK_some rfl rfl ?_)
  · rintro i v ys nw I oI C oC D m₂ h t hi hv ⟨rfl, pl, rfl, hpl⟩ hn hm G
    obtain ⟨d1, hd1, hv1, hd2⟩ := pick_ex ht hv
    have R1 := it i v d1 hv1 hd2
    (repeat' ((first | k_extra "w" | ((with_reducible refine' r_nameC ?q9G ?q9v ?q9m ?q9o ?q9a ?q9b ?q9c ?_); (case q9G => assumption); (case q9v | q9a | q9b => exact rfl); (case q9m => k_extra "mem"); (case q9o => first | assumption | exact rfl); (case q9c => decide)) | with_reducible refine' wpAny_Slice ?_ | ((with_reducible refine' r_gL ?q9G ?q9n ?q9m ?q9v ?q9a ?q9b ?q9c ?_); (case q9G | q9n => assumption); (case q9m => k_extra "mem"); (case q9v => assumption); (case q9a | q9b => exact rfl); (case q9c => decide)) | ((with_reducible refine' r_gK ?q9G ?q9X ?q9e ?q9g ?q9a ?q9b ?q9c ?_); (case q9G | q9X => assumption); (case q9g | q9a | q9b => exact rfl); (case q9e => k_is); (case q9c => decide)) | ((with_reducible refine' r_gC ?q9G ?q9v ?q9m ?q9o ?q9a ?q9b ?q9c ?_); (case q9G => assumption); (case q9v | q9a | q9b => exact rfl); (case q9m => k_extra "mem"); (case q9o => first | assumption | exact rfl); (case q9c => decide)) | ((with_reducible refine' r_alc ?q9w ?q9c ?q9k ?q9n ?q9s ?_); (case q9w | q9c | q9k => exact rfl); (case q9n => decide); (case q9s => (intro _; exact rfl))) | ((with_reducible refine' Assign_Tuple_swapped ?_ ?q9hs ?q9hw); rotate_left; (case q9hs | q9hw => exact rfl)) | ((with_reducible refine' r_unpackI ?q9a ?q9G ?q9m ?q9n ?_); (case q9a | q9G => assumption); (case q9m => k_extra "mem"); (case q9n => exact rfl); intro _ _) | ((with_reducible show wpAny _ _ (PySem.assignInOrder (List.map _ _) _) _ _ _); refine' r_swap2 ?_) | k_extra "while" | with_reducible refine' evalPart_none_step ?_ | with_reducible refine' evalPart_some_step ?_ | with_reducible refine' GM.join ?_ | (with_reducible refine' lt_int ?_) | (with_reducible refine' r_add ?_ <;> intro _ _) | ((with_reducible refine' r_addStr ?q9z ?_); (case q9z => k_extra "size"); intro _ _))))
    refine cal (by assumption) (M _ d1 b v len lev (dep + 1) lu lt _ sh (R1.mono (by k_extra "sub")) (ok d1 (List.mem_of_getElem? hd2))) ?_ (h1 := by k_extra "le") (h2 := by k_extra "le")
    rintro v' nw h' t' ⟨y, u9, rfl, rfl, hy⟩ G
    exact ⟨_, _, ex ++ ((L+4,o1)::(L+3,o2)::(L+2,o3)::(L+1,o4)::rest), rfl, by assumption, rfl, pl ++ [(y, u9)], by simp [strValues], by rw [take_snoc hd1, List.map_append, List.map_append, hpl]; simp [hy]⟩
  intro D h9 t9 ys nw G hfin
  obtain ⟨rfl, pl, rfl, hpl⟩ := hfin
  rw [pick_len ht, List.take_length] at hpl
  have G : Lg h₀ L h9 _ ((D, listOf (strValues pl).toArray (strValues pl).length) :: (ex ++ ((L+4,o1)::(L+3,o2)::(L+2,o3)::(L+1,o4)::rest))) := G
  have hple : pl.length ≤ 7 := by
    have e := congrArg List.length hpl
    rw [List.length_map, List.length_map] at e
    have := pick_le ds len
    omega
  have hsz : (strValues pl).length ≤ 8 := by rw [strValues, List.length_map]; omega
  have hsl := sizeLine_eq
  (repeat' ((((fail_if_success (with_reducible refine r_stopB ?_)); (fail_if_success (with_reducible refine r_stopE ?_)); (first | k_extra "w" | ((with_reducible refine' r_nameC ?q9G ?q9v ?q9m ?q9o ?q9a ?q9b ?q9c ?_); (case q9G => assumption); (case q9v | q9a | q9b => exact rfl); (case q9m => k_extra "mem"); (case q9o => first | assumption | exact rfl); (case q9c => decide)) | with_reducible refine' wpAny_Slice ?_ | ((with_reducible refine' r_gL ?q9G ?q9n ?q9m ?q9v ?q9a ?q9b ?q9c ?_); (case q9G | q9n => assumption); (case q9m => k_extra "mem"); (case q9v => assumption); (case q9a | q9b => exact rfl); (case q9c => decide)) | ((with_reducible refine' r_gK ?q9G ?q9X ?q9e ?q9g ?q9a ?q9b ?q9c ?_); (case q9G | q9X => assumption); (case q9g | q9a | q9b => exact rfl); (case q9e => k_is); (case q9c => decide)) | ((with_reducible refine' r_gC ?q9G ?q9v ?q9m ?q9o ?q9a ?q9b ?q9c ?_); (case q9G => assumption); (case q9v | q9a | q9b => exact rfl); (case q9m => k_extra "mem"); (case q9o => first | assumption | exact rfl); (case q9c => decide)) | ((with_reducible refine' r_alc ?q9w ?q9c ?q9k ?q9n ?q9s ?_); (case q9w | q9c | q9k => exact rfl); (case q9n => decide); (case q9s => (intro _; exact rfl))) | ((with_reducible refine' Assign_Tuple_swapped ?_ ?q9hs ?q9hw); rotate_left; (case q9hs | q9hw => exact rfl)) | ((with_reducible refine' r_unpackI ?q9a ?q9G ?q9m ?q9n ?_); (case q9a | q9G => assumption); (case q9m => k_extra "mem"); (case q9n => exact rfl); intro _ _) | ((with_reducible show wpAny _ _ (PySem.assignInOrder (List.map _ _) _) _ _ _); refine' r_swap2 ?_) | k_extra "while" | with_reducible refine' evalPart_none_step ?_ | with_reducible refine' evalPart_some_step ?_ | with_reducible refine' GM.join ?_ | (with_reducible refine' lt_int ?_) | (with_reducible refine' r_add ?_ <;> intro _ _) | ((with_reducible refine' r_addStr ?q9z ?_); (case q9z => k_extra "size"); intro _ _))))))
  refine cutV G (fun fl nw => fl = Flow.next ∧ ∃ pl n3, nw = (D, listOf (strValues pl).toArray n3) :: (ex ++ ((L+4,o1)::(L+3,o2)::(L+2,o3)::(L+1,o4)::rest)) ∧ pl.map (fun q => codesOf q.1) = partsOf (fun d => txt len lev sh n d (dep + 1)) len ds false) ?_ ?_
  · intro BQ hBQ
    by_cases hc : 0 ≤ len ∧ len < ds.length
    · have hc1 := hc.1
      have hc2 : (ts.length : Int) > len := by rw [ht]; exact hc.2
      (repeat' ((first | k_extra "w" | ((with_reducible refine' r_nameC ?q9G ?q9v ?q9m ?q9o ?q9a ?q9b ?q9c ?_); (case q9G => assumption); (case q9v | q9a | q9b => exact rfl); (case q9m => k_extra "mem"); (case q9o => first | assumption | exact rfl); (case q9c => decide)) | with_reducible refine' wpAny_Slice ?_ | ((with_reducible refine' r_gL ?q9G ?q9n ?q9m ?q9v ?q9a ?q9b ?q9c ?_); (case q9G | q9n => assumption); (case q9m => k_extra "mem"); (case q9v => assumption); (case q9a | q9b => exact rfl); (case q9c => decide)) | ((with_reducible refine' r_gK ?q9G ?q9X ?q9e ?q9g ?q9a ?q9b ?q9c ?_); (case q9G | q9X => assumption); (case q9g | q9a | q9b => exact rfl); (case q9e => k_is); (case q9c => decide)) | ((with_reducible refine' r_gC ?q9G ?q9v ?q9m ?q9o ?q9a ?q9b ?q9c ?_); (case q9G => assumption); (case q9v | q9a | q9b => exact rfl); (case q9m => k_extra "mem"); (case q9o => first | assumption | exact rfl); (case q9c => decide)) | ((with_reducible refine' r_alc ?q9w ?q9c ?q9k ?q9n ?q9s ?_); (case q9w | q9c | q9k => exact rfl); (case q9n => decide); (case q9s => (intro _; exact rfl))) | ((with_reducible refine' Assign_Tuple_swapped ?_ ?q9hs ?q9hw); rotate_left; (case q9hs | q9hw => exact rfl)) | ((with_reducible refine' r_unpackI ?q9a ?q9G ?q9m ?q9n ?_); (case q9a | q9G => assumption); (case q9m => k_extra "mem"); (case q9n => exact rfl); intro _ _) | ((with_reducible show wpAny _ _ (PySem.assignInOrder (List.map _ _) _) _ _ _); refine' r_swap2 ?_) | k_extra "while" | with_reducible refine' evalPart_none_step ?_ | with_reducible refine' evalPart_some_step ?_ | with_reducible refine' GM.join ?_ | (with_reducible refine' lt_int ?_) | (with_reducible refine' r_add ?_ <;> intro _ _) | ((with_reducible refine' r_addStr ?q9z ?_); (case q9z => k_extra "size"); intro _ _))))
      exact hBQ _ _ _ _ ⟨rfl, pl ++ [(Str.ofString "...", _)], _, by simp [strValues]; rfl, by rw [partsOf_yes _ _ hc, List.map_append, hpl]; rfl⟩ (by assumption)
    · have hcc : ¬ 0 ≤ len ∨ (0 ≤ len ∧ ¬ (ts.length : Int) > len) := by rw [ht]; omega
      rcases hcc with hc1 | ⟨hc1, hc2⟩ <;> ((repeat' ((first | k_extra "w" | ((with_reducible refine' r_nameC ?q9G ?q9v ?q9m ?q9o ?q9a ?q9b ?q9c ?_); (case q9G => assumption); (case q9v | q9a | q9b => exact rfl); (case q9m => k_extra "mem"); (case q9o => first | assumption | exact rfl); (case q9c => decide)) | with_reducible refine' wpAny_Slice ?_ | ((with_reducible refine' r_gL ?q9G ?q9n ?q9m ?q9v ?q9a ?q9b ?q9c ?_); (case q9G | q9n => assumption); (case q9m => k_extra "mem"); (case q9v => assumption); (case q9a | q9b => exact rfl); (case q9c => decide)) | ((with_reducible refine' r_gK ?q9G ?q9X ?q9e ?q9g ?q9a ?q9b ?q9c ?_); (case q9G | q9X => assumption); (case q9g | q9a | q9b => exact rfl); (case q9e => k_is); (case q9c => decide)) | ((with_reducible refine' r_gC ?q9G ?q9v ?q9m ?q9o ?q9a ?q9b ?q9c ?_); (case q9G => assumption); (case q9v | q9a | q9b => exact rfl); (case q9m => k_extra "mem"); (case q9o => first | assumption | exact rfl); (case q9c => decide)) | ((with_reducible refine' r_alc ?q9w ?q9c ?q9k ?q9n ?q9s ?_); (case q9w | q9c | q9k => exact rfl); (case q9n => decide); (case q9s => (intro _; exact rfl))) | ((with_reducible refine' Assign_Tuple_swapped ?_ ?q9hs ?q9hw); rotate_left; (case q9hs | q9hw => exact rfl)) | ((with_reducible refine' r_unpackI ?q9a ?q9G ?q9m ?q9n ?_); (case q9a | q9G => assumption); (case q9m => k_extra "mem"); (case q9n => exact rfl); intro _ _) | ((with_reducible show wpAny _ _ (PySem.assignInOrder (List.map _ _) _) _ _ _); refine' r_swap2 ?_) | k_extra "while" | with_reducible refine' evalPart_none_step ?_ | with_reducible refine' evalPart_some_step ?_ | with_reducible refine' GM.join ?_ | (with_reducible refine' lt_int ?_) | (with_reducible refine' r_add ?_ <;> intro _ _) | ((with_reducible refine' r_addStr ?q9z ?_); (case q9z => k_extra "size"); intro _ _)))); exact hBQ _ _ _ _ ⟨rfl, pl, _, rfl, by rw [partsOf_not _ hc]; exact hpl⟩ (by assumption))
  rintro fl nw h' t' ⟨rfl, pl, n3, rfl, hpl⟩ G
  have hB := tbd_ge n
  obtain ⟨hj1, hj2⟩ := parts_ok hpl (B := tbd n) (by k_extra "le") (fun d hd => txt_len len lev sh n d (dep + 1) (ok d hd)) h7 (by unfold tbd at hT; omega)
  have hz1 : (Str.ofString "[").length + (Txt.join (Str.ofString " ") (pl.map (·.1))).length ≤ sizeLine := by
    have : (Str.ofString "[").length = 1 := by decide +kernel
    omega
  have hz2 : (Str.ofString "[" ++ Txt.join (Str.ofString " ") (pl.map (·.1))).length + (Str.ofString "]").length ≤ sizeLine := by
    have e1 : (Str.ofString "[").length = 1 := by decide +kernel
    have e2 : (Str.ofString "]").length = 1 := by decide +kernel
    rw [Str.length_append]; omega
  (repeat' ((first | k_extra "w" | ((with_reducible refine' r_nameC ?q9G ?q9v ?q9m ?q9o ?q9a ?q9b ?q9c ?_); (case q9G => assumption); (case q9v | q9a | q9b => exact rfl); (case q9m => k_extra "mem"); (case q9o => first | assumption | exact rfl); (case q9c => decide)) | with_reducible refine' wpAny_Slice ?_ | ((with_reducible refine' r_gL ?q9G ?q9n ?q9m ?q9v ?q9a ?q9b ?q9c ?_); (case q9G | q9n => assumption); (case q9m => k_extra "mem"); (case q9v => assumption); (case q9a | q9b => exact rfl); (case q9c => decide)) | ((with_reducible refine' r_gK ?q9G ?q9X ?q9e ?q9g ?q9a ?q9b ?q9c ?_); (case q9G | q9X => assumption); (case q9g | q9a | q9b => exact rfl); (case q9e => k_is); (case q9c => decide)) | ((with_reducible refine' r_gC ?q9G ?q9v ?q9m ?q9o ?q9a ?q9b ?q9c ?_); (case q9G => assumption); (case q9v | q9a | q9b => exact rfl); (case q9m => k_extra "mem"); (case q9o => first | assumption | exact rfl); (case q9c => decide)) | ((with_reducible refine' r_alc ?q9w ?q9c ?q9k ?q9n ?q9s ?_); (case q9w | q9c | q9k => exact rfl); (case q9n => decide); (case q9s => (intro _; exact rfl))) | ((with_reducible refine' Assign_Tuple_swapped ?_ ?q9hs ?q9hw); rotate_left; (case q9hs | q9hw => exact rfl)) | ((with_reducible refine' r_unpackI ?q9a ?q9G ?q9m ?q9n ?_); (case q9a | q9G => assumption); (case q9m => k_extra "mem"); (case q9n => exact rfl); intro _ _) | ((with_reducible show wpAny _ _ (PySem.assignInOrder (List.map _ _) _) _ _ _); refine' r_swap2 ?_) | k_extra "while" | with_reducible refine' evalPart_none_step ?_ | with_reducible refine' evalPart_some_step ?_ | with_reducible refine' GM.join ?_ | (with_reducible refine' lt_int ?_) | (with_reducible refine' r_add ?_ <;> intro _ _) | ((with_reducible refine' r_addStr ?q9z ?_); (case q9z => k_extra "size"); intro _ _))))
  refine r_join (by assumption) (by k_extra "mem") rfl hj1 fun u9 t9 => ?_
  (repeat' ((first | k_extra "w" | ((with_reducible refine' r_nameC ?q9G ?q9v ?q9m ?q9o ?q9a ?q9b ?q9c ?_); (case q9G => assumption); (case q9v | q9a | q9b => exact rfl); (case q9m => k_extra "mem"); (case q9o => first | assumption | exact rfl); (case q9c => decide)) | with_reducible refine' wpAny_Slice ?_ | ((with_reducible refine' r_gL ?q9G ?q9n ?q9m ?q9v ?q9a ?q9b ?q9c ?_); (case q9G | q9n => assumption); (case q9m => k_extra "mem"); (case q9v => assumption); (case q9a | q9b => exact rfl); (case q9c => decide)) | ((with_reducible refine' r_gK ?q9G ?q9X ?q9e ?q9g ?q9a ?q9b ?q9c ?_); (case q9G | q9X => assumption); (case q9g | q9a | q9b => exact rfl); (case q9e => k_is); (case q9c => decide)) | ((with_reducible refine' r_gC ?q9G ?q9v ?q9m ?q9o ?q9a ?q9b ?q9c ?_); (case q9G => assumption); (case q9v | q9a | q9b => exact rfl); (case q9m => k_extra "mem"); (case q9o => first | assumption | exact rfl); (case q9c => decide)) | ((with_reducible refine' r_alc ?q9w ?q9c ?q9k ?q9n ?q9s ?_); (case q9w | q9c | q9k => exact rfl); (case q9n => decide); (case q9s => (intro _; exact rfl))) | ((with_reducible refine' Assign_Tuple_swapped ?_ ?q9hs ?q9hw); rotate_left; (case q9hs | q9hw => exact rfl)) | ((with_reducible refine' r_unpackI ?q9a ?q9G ?q9m ?q9n ?_); (case q9a | q9G => assumption); (case q9m => k_extra "mem"); (case q9n => exact rfl); intro _ _) | ((with_reducible show wpAny _ _ (PySem.assignInOrder (List.map _ _) _) _ _ _); refine' r_swap2 ?_) | k_extra "while" | with_reducible refine' evalPart_none_step ?_ | with_reducible refine' evalPart_some_step ?_ | with_reducible refine' GM.join ?_ | (with_reducible refine' lt_int ?_) | (with_reducible refine' r_add ?_ <;> intro _ _) | ((with_reducible refine' r_addStr ?q9z ?_); (case q9z => k_extra "size"); intro _ _))))
  exact hQ _ _ <| r_backP (by assumption) ⟨_, _, rfl, rfl, by rw [codesOf_app, codesOf_app, join_codes, List.map_map]; rw [show List.map (codesOf ∘ fun x => x.1) pl = List.map (fun q => codesOf q.1) pl from rfl, hpl]; rfl⟩ (by k_extra "sel")
end
section
variable {w : World} {p : Program} {loose : List Str} {mean : ExcName → Option Value} {mg mb : Str → Option Value} {rest : List (Addr × Obj)}
theorem text_lst {n dn un : Nat} (hdn : 41 ≤ dn) (hun : 203 ≤ un) (hT : tbd (n + 1) ≤ 100000) (M : TextAt w p loose mean mg mb n dn un) {x b : Addr} {xs : List Addr} {ts : List Value} {tv : Value} {dot : Bool} {ds : List (Dt n)} {len lev dep : Int} {lu lt du : Tok} {sh : Bool}
    (C : Cells (fr.heap_1 w.params) rest (x :: xs) ts tv dot) (ht : ts.length = ds.length) (h7 : ds.length ≤ 7) (ok : ∀ d ∈ ds, Ok n d) (it : ∀ (i : Nat) (w' : Value) (d : Dt n), ts[i]? = some w' → ds[i]? = some d → Rel (fr.heap_1 w.params) rest n b w' d) :
    SP w p loose mean mg mb (.ref 539) [.ref x, .int len lu, .int lev lt, .bool sh, .int dep du] (dn + 1) (un + 3) rest (fun r nw => ∃ y u, r = .str y u ∧ nw = rest ∧ codesOf y = txt len lev sh (n + 1) (.lst ds dot) dep) := by
  obtain ⟨w0, k0, t0, dx0, j0, a0, b0, c0⟩ := C.cell 0 x rfl
  have I : InsIn (fr.heap_1 w.params) rest x 98 (coE k0 t0 w0 (atv (x :: xs) tv (0 + 1))) := .news b0 c0
  unfold SP
  k_fill
  refine' Sp.defX (fun L => [(Str.ofString "depth", L + 4), (Str.ofString "is_short", L + 3), (Str.ofString "level", L + 2), (Str.ofString "length", L + 1)]) ?ho ?hcd ?hb ?hl ?hn ?hp ?h1 ?h2 ?h3 ?hcl ?_
  (((case ho | hcd => k_is); (case hb => first | exact fun _ _ => BindsTo.of_eq (binds := [(_, _)]) rfl | exact fun _ _ => BindsTo.of_eq (binds := [(_, _), (_, _)]) rfl | exact fun _ _ => BindsTo.of_eq (binds := [(_, _), (_, _), (_, _)]) rfl | exact fun _ _ => BindsTo.of_eq (binds := [(_, _), (_, _), (_, _), (_, _)]) rfl | exact fun _ _ => BindsTo.of_eq rfl); (case hl => exact rfl); (case hn => decide); (case hp => first | exact fun n => hap3 n | exact fun n => hap4 n); (case h1 | h2 | h3 => exact rfl); (case hcl => exact fun _ => rfl)))
  intro A outer A₀ base h₀ h L g d t os cells hA X hcells G
  refine wpAny_hide fun Q9 hQ => ?_
  obtain ⟨o1, o2, o3, o4, rfl, hc1, hc2, hc3, hc4⟩ := cells4 hcells
  replace hc1 : o1.data = .cell (some (.int dep du)) := hc1
  replace hc2 : o2.data = .cell (some (.bool sh)) := hc2
  replace hc3 : o3.data = .cell (some (.int lev lt)) := hc3
  replace hc4 : o4.data = .cell (some (.int len lu)) := hc4
  simp only [List.cons_append, List.nil_append] at G
  refine Lg.hideM G (x := Str.ofString "datum") (v := .ref x) rfl fun m0 hm0 G0 => ?_
  clear G
  (repeat' ((((fail_if_success (with_reducible refine r_stopB ?_)); (fail_if_success (with_reducible refine r_stopE ?_)); (first | k_extra "w" | ((with_reducible refine' r_nameC ?q9G ?q9v ?q9m ?q9o ?q9a ?q9b ?q9c ?_); (case q9G => assumption); (case q9v | q9a | q9b => exact rfl); (case q9m => k_extra "mem"); (case q9o => first | assumption | exact rfl); (case q9c => decide)) | with_reducible refine' wpAny_Slice ?_ | ((with_reducible refine' r_gL ?q9G ?q9n ?q9m ?q9v ?q9a ?q9b ?q9c ?_); (case q9G | q9n => assumption); (case q9m => k_extra "mem"); (case q9v => assumption); (case q9a | q9b => exact rfl); (case q9c => decide)) | ((with_reducible refine' r_gK ?q9G ?q9X ?q9e ?q9g ?q9a ?q9b ?q9c ?_); (case q9G | q9X => assumption); (case q9g | q9a | q9b => exact rfl); (case q9e => k_is); (case q9c => decide)) | ((with_reducible refine' r_gC ?q9G ?q9v ?q9m ?q9o ?q9a ?q9b ?q9c ?_); (case q9G => assumption); (case q9v | q9a | q9b => exact rfl); (case q9m => k_extra "mem"); (case q9o => first | assumption | exact rfl); (case q9c => decide)) | ((with_reducible refine' r_alc ?q9w ?q9c ?q9k ?q9n ?q9s ?_); (case q9w | q9c | q9k => exact rfl); (case q9n => decide); (case q9s => (intro _; exact rfl))) | ((with_reducible refine' Assign_Tuple_swapped ?_ ?q9hs ?q9hw); rotate_left; (case q9hs | q9hw => exact rfl)) | ((with_reducible refine' r_unpackI ?q9a ?q9G ?q9m ?q9n ?_); (case q9a | q9G => assumption); (case q9m => k_extra "mem"); (case q9n => exact rfl); intro _ _) | ((with_reducible show wpAny _ _ (PySem.assignInOrder (List.map _ _) _) _ _ _); refine' r_swap2 ?_) | k_extra "while" | with_reducible refine r_wnext ?_ | with_reducible refine' evalPart_none_step ?_ | with_reducible refine' evalPart_some_step ?_ | with_reducible refine' GM.join ?_ | (with_reducible refine' lt_int ?_) | (with_reducible refine' r_add ?_ <;> intro _ _) | with_reducible refine' r_neStr ?_ | ((with_reducible refine' r_addStr ?q9z ?_); (case q9z => k_extra "size"); intro _ _) | with_reducible refine' r_isSame ?_ | with_reducible refine' r_isnotSame ?_ | with_reducible refine' r_isIR ?_ | with_reducible refine' r_isnotIR ?_)))))
  by_cases c : 0 ≤ lev ∧ lev ≤ dep
  · have c1 := c.1
    have c2 := c.2
    (repeat' ((first | k_extra "w" | ((with_reducible refine' r_nameC ?q9G ?q9v ?q9m ?q9o ?q9a ?q9b ?q9c ?_); (case q9G => assumption); (case q9v | q9a | q9b => exact rfl); (case q9m => k_extra "mem"); (case q9o => first | assumption | exact rfl); (case q9c => decide)) | with_reducible refine' wpAny_Slice ?_ | ((with_reducible refine' r_gL ?q9G ?q9n ?q9m ?q9v ?q9a ?q9b ?q9c ?_); (case q9G | q9n => assumption); (case q9m => k_extra "mem"); (case q9v => assumption); (case q9a | q9b => exact rfl); (case q9c => decide)) | ((with_reducible refine' r_gK ?q9G ?q9X ?q9e ?q9g ?q9a ?q9b ?q9c ?_); (case q9G | q9X => assumption); (case q9g | q9a | q9b => exact rfl); (case q9e => k_is); (case q9c => decide)) | ((with_reducible refine' r_gC ?q9G ?q9v ?q9m ?q9o ?q9a ?q9b ?q9c ?_); (case q9G => assumption); (case q9v | q9a | q9b => exact rfl); (case q9m => k_extra "mem"); (case q9o => first | assumption | exact rfl); (case q9c => decide)) | ((with_reducible refine' r_alc ?q9w ?q9c ?q9k ?q9n ?q9s ?_); (case q9w | q9c | q9k => exact rfl); (case q9n => decide); (case q9s => (intro _; exact rfl))) | ((with_reducible refine' Assign_Tuple_swapped ?_ ?q9hs ?q9hw); rotate_left; (case q9hs | q9hw => exact rfl)) | ((with_reducible refine' r_unpackI ?q9a ?q9G ?q9m ?q9n ?_); (case q9a | q9G => assumption); (case q9m => k_extra "mem"); (case q9n => exact rfl); intro _ _) | ((with_reducible show wpAny _ _ (PySem.assignInOrder (List.map _ _) _) _ _ _); refine' r_swap2 ?_) | k_extra "while" | with_reducible refine r_wnext ?_ | with_reducible refine' evalPart_none_step ?_ | with_reducible refine' evalPart_some_step ?_ | with_reducible refine' GM.join ?_ | (with_reducible refine' lt_int ?_) | (with_reducible refine' r_add ?_ <;> intro _ _) | with_reducible refine' r_neStr ?_ | ((with_reducible refine' r_addStr ?q9z ?_); (case q9z => k_extra "size"); intro _ _) | with_reducible refine' r_isSame ?_ | with_reducible refine' r_isnotSame ?_ | with_reducible refine' r_isIR ?_ | with_reducible refine' r_isnotIR ?_)))
    exact hQ _ _ <| r_backP (by assumption) ⟨_, _, rfl, rfl, by rw [txt_lst, if_pos c]; decide +kernel⟩ (by k_extra "sel")
  have cc : ¬ 0 ≤ lev ∨ (0 ≤ lev ∧ ¬ lev ≤ dep) := by omega
  rw [txt_lst, if_neg c] at hQ
  refine cutV (by assumption) (fun fl nw => fl = Flow.next ∧ nw = (L + 4, o1) :: (L + 3, o2) :: (L + 2, o3) :: (L + 1, o4) :: rest) ?_ ?_
  · intro BQ hBQ
    rcases cc with c1 | ⟨c1, c2⟩ <;> ((repeat' ((first | k_extra "w" | ((with_reducible refine' r_nameC ?q9G ?q9v ?q9m ?q9o ?q9a ?q9b ?q9c ?_); (case q9G => assumption); (case q9v | q9a | q9b => exact rfl); (case q9m => k_extra "mem"); (case q9o => first | assumption | exact rfl); (case q9c => decide)) | with_reducible refine' wpAny_Slice ?_ | ((with_reducible refine' r_gL ?q9G ?q9n ?q9m ?q9v ?q9a ?q9b ?q9c ?_); (case q9G | q9n => assumption); (case q9m => k_extra "mem"); (case q9v => assumption); (case q9a | q9b => exact rfl); (case q9c => decide)) | ((with_reducible refine' r_gK ?q9G ?q9X ?q9e ?q9g ?q9a ?q9b ?q9c ?_); (case q9G | q9X => assumption); (case q9g | q9a | q9b => exact rfl); (case q9e => k_is); (case q9c => decide)) | ((with_reducible refine' r_gC ?q9G ?q9v ?q9m ?q9o ?q9a ?q9b ?q9c ?_); (case q9G => assumption); (case q9v | q9a | q9b => exact rfl); (case q9m => k_extra "mem"); (case q9o => first | assumption | exact rfl); (case q9c => decide)) | ((with_reducible refine' r_alc ?q9w ?q9c ?q9k ?q9n ?q9s ?_); (case q9w | q9c | q9k => exact rfl); (case q9n => decide); (case q9s => (intro _; exact rfl))) | ((with_reducible refine' Assign_Tuple_swapped ?_ ?q9hs ?q9hw); rotate_left; (case q9hs | q9hw => exact rfl)) | ((with_reducible refine' r_unpackI ?q9a ?q9G ?q9m ?q9n ?_); (case q9a | q9G => assumption); (case q9m => k_extra "mem"); (case q9n => exact rfl); intro _ _) | ((with_reducible show wpAny _ _ (PySem.assignInOrder (List.map _ _) _) _ _ _); refine' r_swap2 ?_) | k_extra "while" | with_reducible refine r_wnext ?_ | with_reducible refine' evalPart_none_step ?_ | with_reducible refine' evalPart_some_step ?_ | with_reducible refine' GM.join ?_ | (with_reducible refine' lt_int ?_) | (with_reducible refine' r_add ?_ <;> intro _ _) | with_reducible refine' r_neStr ?_ | ((with_reducible refine' r_addStr ?q9z ?_); (case q9z => k_extra "size"); intro _ _) | with_reducible refine' r_isSame ?_ | with_reducible refine' r_isnotSame ?_ | with_reducible refine' r_isIR ?_ | with_reducible refine' r_isnotIR ?_))); exact hBQ _ _ _ _ ⟨rfl, rfl⟩ (by assumption))
  rintro fl nw h' t' ⟨rfl, rfl⟩ G
  (repeat' ((((fail_if_success (with_reducible refine r_stopB ?_)); (fail_if_success (with_reducible refine r_stopE ?_)); (first | k_extra "w" | ((with_reducible refine' r_nameC ?q9G ?q9v ?q9m ?q9o ?q9a ?q9b ?q9c ?_); (case q9G => assumption); (case q9v | q9a | q9b => exact rfl); (case q9m => k_extra "mem"); (case q9o => first | assumption | exact rfl); (case q9c => decide)) | with_reducible refine' wpAny_Slice ?_ | ((with_reducible refine' r_gL ?q9G ?q9n ?q9m ?q9v ?q9a ?q9b ?q9c ?_); (case q9G | q9n => assumption); (case q9m => k_extra "mem"); (case q9v => assumption); (case q9a | q9b => exact rfl); (case q9c => decide)) | ((with_reducible refine' r_gK ?q9G ?q9X ?q9e ?q9g ?q9a ?q9b ?q9c ?_); (case q9G | q9X => assumption); (case q9g | q9a | q9b => exact rfl); (case q9e => k_is); (case q9c => decide)) | ((with_reducible refine' r_gC ?q9G ?q9v ?q9m ?q9o ?q9a ?q9b ?q9c ?_); (case q9G => assumption); (case q9v | q9a | q9b => exact rfl); (case q9m => k_extra "mem"); (case q9o => first | assumption | exact rfl); (case q9c => decide)) | ((with_reducible refine' r_alc ?q9w ?q9c ?q9k ?q9n ?q9s ?_); (case q9w | q9c | q9k => exact rfl); (case q9n => decide); (case q9s => (intro _; exact rfl))) | ((with_reducible refine' Assign_Tuple_swapped ?_ ?q9hs ?q9hw); rotate_left; (case q9hs | q9hw => exact rfl)) | ((with_reducible refine' r_unpackI ?q9a ?q9G ?q9m ?q9n ?_); (case q9a | q9G => assumption); (case q9m => k_extra "mem"); (case q9n => exact rfl); intro _ _) | ((with_reducible show wpAny _ _ (PySem.assignInOrder (List.map _ _) _) _ _ _); refine' r_swap2 ?_) | k_extra "while" | with_reducible refine r_wnext ?_ | with_reducible refine' evalPart_none_step ?_ | with_reducible refine' evalPart_some_step ?_ | with_reducible refine' GM.join ?_ | (with_reducible refine' lt_int ?_) | (with_reducible refine' r_add ?_ <;> intro _ _) | with_reducible refine' r_neStr ?_ | ((with_reducible refine' r_addStr ?q9z ?_); (case q9z => k_extra "size"); intro _ _) | with_reducible refine' r_isSame ?_ | with_reducible refine' r_isnotSame ?_ | with_reducible refine' r_isIR ?_ | with_reducible refine' r_isnotIR ?_)))))
  rename_i l _ _ _ _ _ _ _ _ _ _ _ _ _
  refine' wh_inv (fun i m nw => ∃ n', nw = (l, listOf (ts.take i).toArray n') :: ((L + 4, o1) :: (L + 3, o2) :: (L + 2, o3) :: (L + 1, o4) :: rest) ∧ m (Str.ofString "things") = some (.ref l) ∧ m (Str.ofString "at") = some (atv (x :: xs) tv i) ∧ m (Str.ofString "datum") = some (.ref x)) (N := ts.length) ?step ?last _ 0 _ ((l, listOf #[] 0) :: (L + 4, o1) :: (L + 3, o2) :: (L + 2, o3) :: (L + 1, o4) :: rest) _ _ (Nat.zero_add _) ?j0 ?g0
  case g0 => exact Lg.sel (by assumption) (by k_extra "sel")
  case j0 => exact ⟨0, rfl, rfl, rfl, hm0⟩
  case step =>
    rintro i m nw h t hi ⟨n', rfl, m1, m2, m3⟩ G go
    obtain ⟨y, hy⟩ : ∃ y, (x :: xs)[i]? = some y := ⟨_, List.getElem?_eq_getElem (by rw [← C.len]; exact hi)⟩
    obtain ⟨wi, ki, ti, dxi, ji, ai, bi, ci⟩ := C.cell i y hy
    rw [atv_some hy] at m2
    have Ii : InsIn (fr.heap_1 w.params) rest y 98 (coE ki ti wi (atv (x :: xs) tv (i + 1))) := .news bi ci
    have hR := it i wi ds[i] ai (List.getElem?_eq_getElem (by k_extra "le"))
    have hh1 := hR.handed
    have hh2 := atv_handed C.tail (ys := x :: xs) (i + 1)
    have hsl := sizeLine_eq
    have hsz : (ts.take i).length ≤ sizeLine := by rw [List.length_take]; omega
    refine r_wturn ?_
    (repeat' ((first | k_extra "w" | ((with_reducible refine' r_nameC ?q9G ?q9v ?q9m ?q9o ?q9a ?q9b ?q9c ?_); (case q9G => assumption); (case q9v | q9a | q9b => exact rfl); (case q9m => k_extra "mem"); (case q9o => first | assumption | exact rfl); (case q9c => decide)) | with_reducible refine' wpAny_Slice ?_ | ((with_reducible refine' r_gL ?q9G ?q9n ?q9m ?q9v ?q9a ?q9b ?q9c ?_); (case q9G | q9n => assumption); (case q9m => k_extra "mem"); (case q9v => assumption); (case q9a | q9b => exact rfl); (case q9c => decide)) | ((with_reducible refine' r_gK ?q9G ?q9X ?q9e ?q9g ?q9a ?q9b ?q9c ?_); (case q9G | q9X => assumption); (case q9g | q9a | q9b => exact rfl); (case q9e => k_is); (case q9c => decide)) | ((with_reducible refine' r_gC ?q9G ?q9v ?q9m ?q9o ?q9a ?q9b ?q9c ?_); (case q9G => assumption); (case q9v | q9a | q9b => exact rfl); (case q9m => k_extra "mem"); (case q9o => first | assumption | exact rfl); (case q9c => decide)) | ((with_reducible refine' r_alc ?q9w ?q9c ?q9k ?q9n ?q9s ?_); (case q9w | q9c | q9k => exact rfl); (case q9n => decide); (case q9s => (intro _; exact rfl))) | ((with_reducible refine' Assign_Tuple_swapped ?_ ?q9hs ?q9hw); rotate_left; (case q9hs | q9hw => exact rfl)) | ((with_reducible refine' r_unpackI ?q9a ?q9G ?q9m ?q9n ?_); (case q9a | q9G => assumption); (case q9m => k_extra "mem"); (case q9n => exact rfl); intro _ _) | ((with_reducible show wpAny _ _ (PySem.assignInOrder (List.map _ _) _) _ _ _); refine' r_swap2 ?_) | k_extra "while" | with_reducible refine r_wnext ?_ | with_reducible refine' evalPart_none_step ?_ | with_reducible refine' evalPart_some_step ?_ | with_reducible refine' GM.join ?_ | (with_reducible refine' lt_int ?_) | (with_reducible refine' r_add ?_ <;> intro _ _) | with_reducible refine' r_neStr ?_ | ((with_reducible refine' r_addStr ?q9z ?_); (case q9z => k_extra "size"); intro _ _) | with_reducible refine' r_isSame ?_ | with_reducible refine' r_isnotSame ?_ | with_reducible refine' r_isIR ?_ | with_reducible refine' r_isnotIR ?_)))
    refine' go _ _ _ _ ?hj ?hG
    case hG => assumption
    case hj => exact ⟨_, by rw [take_snoc ai], m1, rfl, m3⟩
  case last =>
    rintro m nw h t ⟨n', rfl, m1, m2, m3⟩ G
    rw [List.take_length] at G
    rw [atv_none (by rw [← C.len]; exact Nat.le_refl _)] at m2
    have htl := C.tail
    have Hat : IsV (fr.heap_1 w.params) rest tv (.ref 98) false := by
      cases dot with
      | false =>
        obtain ⟨kn, tn, In⟩ := nil_in (w := w) (news := rest)
        exact .obj _ _ _ htl In iok_sym k71c
      | true =>
        obtain ⟨u7, e7⟩ := (show ∃ u, tv = .int 7 u from htl)
        exact .int _ _ e7 ki98
    have Hat2 := Hat.mono (news' := ((l,listOf ts.toArray n')::(L+4,o1)::(L+3,o2)::(L+2,o3)::(L+1,o4)::rest)) (by k_extra "sub")
    refine r_wturn ?_
    (repeat' ((((fail_if_success (with_reducible refine r_stopB ?_)); (fail_if_success (with_reducible refine r_stopE ?_)); (first | k_extra "w" | ((with_reducible refine' r_nameC ?q9G ?q9v ?q9m ?q9o ?q9a ?q9b ?q9c ?_); (case q9G => assumption); (case q9v | q9a | q9b => exact rfl); (case q9m => k_extra "mem"); (case q9o => first | assumption | exact rfl); (case q9c => decide)) | with_reducible refine' wpAny_Slice ?_ | ((with_reducible refine' r_gL ?q9G ?q9n ?q9m ?q9v ?q9a ?q9b ?q9c ?_); (case q9G | q9n => assumption); (case q9m => k_extra "mem"); (case q9v => assumption); (case q9a | q9b => exact rfl); (case q9c => decide)) | ((with_reducible refine' r_gK ?q9G ?q9X ?q9e ?q9g ?q9a ?q9b ?q9c ?_); (case q9G | q9X => assumption); (case q9g | q9a | q9b => exact rfl); (case q9e => k_is); (case q9c => decide)) | ((with_reducible refine' r_gC ?q9G ?q9v ?q9m ?q9o ?q9a ?q9b ?q9c ?_); (case q9G => assumption); (case q9v | q9a | q9b => exact rfl); (case q9m => k_extra "mem"); (case q9o => first | assumption | exact rfl); (case q9c => decide)) | ((with_reducible refine' r_alc ?q9w ?q9c ?q9k ?q9n ?q9s ?_); (case q9w | q9c | q9k => exact rfl); (case q9n => decide); (case q9s => (intro _; exact rfl))) | ((with_reducible refine' Assign_Tuple_swapped ?_ ?q9hs ?q9hw); rotate_left; (case q9hs | q9hw => exact rfl)) | ((with_reducible refine' r_unpackI ?q9a ?q9G ?q9m ?q9n ?_); (case q9a | q9G => assumption); (case q9m => k_extra "mem"); (case q9n => exact rfl); intro _ _) | ((with_reducible show wpAny _ _ (PySem.assignInOrder (List.map _ _) _) _ _ _); refine' r_swap2 ?_) | k_extra "while" | with_reducible refine r_wnext ?_ | with_reducible refine' evalPart_none_step ?_ | with_reducible refine' evalPart_some_step ?_ | with_reducible refine' GM.join ?_ | (with_reducible refine' lt_int ?_) | (with_reducible refine' r_add ?_ <;> intro _ _) | with_reducible refine' r_neStr ?_ | ((with_reducible refine' r_addStr ?q9z ?_); (case q9z => k_extra "size"); intro _ _) | with_reducible refine' r_isSame ?_ | with_reducible refine' r_isnotSame ?_ | with_reducible refine' r_isIR ?_ | with_reducible refine' r_isnotIR ?_)))))
    refine cutV (by assumption) (fun v nw => ∃ m u, v = .str m u ∧ codesOf m = quoteOf n ds ∧ nw = ((l,listOf ts.toArray n')::(L+4,o1)::(L+3,o2)::(L+2,o3)::(L+1,o4)::rest)) ?_ ?_
    · intro BQ hBQ
      by_cases h2 : ts.length = 2
      · obtain ⟨d0, d1, rfl⟩ := two_of (ht.symm.trans h2)
        obtain ⟨v0, v1, rfl⟩ := two_of h2
        (repeat' ((first | k_extra "w" | ((with_reducible refine' r_nameC ?q9G ?q9v ?q9m ?q9o ?q9a ?q9b ?q9c ?_); (case q9G => assumption); (case q9v | q9a | q9b => exact rfl); (case q9m => k_extra "mem"); (case q9o => first | assumption | exact rfl); (case q9c => decide)) | with_reducible refine' wpAny_Slice ?_ | ((with_reducible refine' r_gL ?q9G ?q9n ?q9m ?q9v ?q9a ?q9b ?q9c ?_); (case q9G | q9n => assumption); (case q9m => k_extra "mem"); (case q9v => assumption); (case q9a | q9b => exact rfl); (case q9c => decide)) | ((with_reducible refine' r_gK ?q9G ?q9X ?q9e ?q9g ?q9a ?q9b ?q9c ?_); (case q9G | q9X => assumption); (case q9g | q9a | q9b => exact rfl); (case q9e => k_is); (case q9c => decide)) | ((with_reducible refine' r_gC ?q9G ?q9v ?q9m ?q9o ?q9a ?q9b ?q9c ?_); (case q9G => assumption); (case q9v | q9a | q9b => exact rfl); (case q9m => k_extra "mem"); (case q9o => first | assumption | exact rfl); (case q9c => decide)) | ((with_reducible refine' r_alc ?q9w ?q9c ?q9k ?q9n ?q9s ?_); (case q9w | q9c | q9k => exact rfl); (case q9n => decide); (case q9s => (intro _; exact rfl))) | ((with_reducible refine' Assign_Tuple_swapped ?_ ?q9hs ?q9hw); rotate_left; (case q9hs | q9hw => exact rfl)) | ((with_reducible refine' r_unpackI ?q9a ?q9G ?q9m ?q9n ?_); (case q9a | q9G => assumption); (case q9m => k_extra "mem"); (case q9n => exact rfl); intro _ _) | ((with_reducible show wpAny _ _ (PySem.assignInOrder (List.map _ _) _) _ _ _); refine' r_swap2 ?_) | k_extra "while" | with_reducible refine r_wnext ?_ | with_reducible refine' evalPart_none_step ?_ | with_reducible refine' evalPart_some_step ?_ | with_reducible refine' GM.join ?_ | (with_reducible refine' lt_int ?_) | (with_reducible refine' r_add ?_ <;> intro _ _) | with_reducible refine' r_neStr ?_ | ((with_reducible refine' r_addStr ?q9z ?_); (case q9z => k_extra "size"); intro _ _) | with_reducible refine' r_isSame ?_ | with_reducible refine' r_isnotSame ?_ | with_reducible refine' r_isIR ?_ | with_reducible refine' r_isnotIR ?_)))
        refine r_item (by assumption) (by k_extra "mem") (by decide) (by decide) (v := v0) rfl (by with_unfolding_all rfl) ?_
        rcases rel_isV n b v0 d0 (it 0 v0 d0 rfl rfl) with ⟨s, sx, k3, t3, num, hs, rfl, S⟩ | ⟨hs, H⟩
        · have hq : quoteOf n [d0, d1] = s.mark := by show markOf n d0 = _; unfold markOf; rw [hs]
          have S2 := S
          (repeat' ((first | k_extra "w" | ((with_reducible refine' r_nameC ?q9G ?q9v ?q9m ?q9o ?q9a ?q9b ?q9c ?_); (case q9G => assumption); (case q9v | q9a | q9b => exact rfl); (case q9m => k_extra "mem"); (case q9o => first | assumption | exact rfl); (case q9c => decide)) | with_reducible refine' wpAny_Slice ?_ | ((with_reducible refine' r_gL ?q9G ?q9n ?q9m ?q9v ?q9a ?q9b ?q9c ?_); (case q9G | q9n => assumption); (case q9m => k_extra "mem"); (case q9v => assumption); (case q9a | q9b => exact rfl); (case q9c => decide)) | ((with_reducible refine' r_gK ?q9G ?q9X ?q9e ?q9g ?q9a ?q9b ?q9c ?_); (case q9G | q9X => assumption); (case q9g | q9a | q9b => exact rfl); (case q9e => k_is); (case q9c => decide)) | ((with_reducible refine' r_gC ?q9G ?q9v ?q9m ?q9o ?q9a ?q9b ?q9c ?_); (case q9G => assumption); (case q9v | q9a | q9b => exact rfl); (case q9m => k_extra "mem"); (case q9o => first | assumption | exact rfl); (case q9c => decide)) | ((with_reducible refine' r_alc ?q9w ?q9c ?q9k ?q9n ?q9s ?_); (case q9w | q9c | q9k => exact rfl); (case q9n => decide); (case q9s => (intro _; exact rfl))) | ((with_reducible refine' Assign_Tuple_swapped ?_ ?q9hs ?q9hw); rotate_left; (case q9hs | q9hw => exact rfl)) | ((with_reducible refine' r_unpackI ?q9a ?q9G ?q9m ?q9n ?_); (case q9a | q9G => assumption); (case q9m => k_extra "mem"); (case q9n => exact rfl); intro _ _) | ((with_reducible show wpAny _ _ (PySem.assignInOrder (List.map _ _) _) _ _ _); refine' r_swap2 ?_) | k_extra "while" | with_reducible refine r_wnext ?_ | with_reducible refine' evalPart_none_step ?_ | with_reducible refine' evalPart_some_step ?_ | with_reducible refine' GM.join ?_ | (with_reducible refine' lt_int ?_) | (with_reducible refine' r_add ?_ <;> intro _ _) | with_reducible refine' r_neStr ?_ | ((with_reducible refine' r_addStr ?q9z ?_); (case q9z => k_extra "size"); intro _ _) | with_reducible refine' r_isSame ?_ | with_reducible refine' r_isnotSame ?_ | with_reducible refine' r_isIR ?_ | with_reducible refine' r_isnotIR ?_)))
          refine r_dict (pairs := [(_, _), (_, _), (_, _)]) (by assumption) (by assumption) rfl (by simp) (by simp) fun D9 h9 G lt9 low9 => ?_
          refine r_dpair (wpAny_bind (wpAny_fresh (wpAny_pure (wpAny_bind ?_))))
          (repeat' ((first | k_extra "w" | ((with_reducible refine' r_nameC ?q9G ?q9v ?q9m ?q9o ?q9a ?q9b ?q9c ?_); (case q9G => assumption); (case q9v | q9a | q9b => exact rfl); (case q9m => k_extra "mem"); (case q9o => first | assumption | exact rfl); (case q9c => decide)) | with_reducible refine' wpAny_Slice ?_ | ((with_reducible refine' r_gL ?q9G ?q9n ?q9m ?q9v ?q9a ?q9b ?q9c ?_); (case q9G | q9n => assumption); (case q9m => k_extra "mem"); (case q9v => assumption); (case q9a | q9b => exact rfl); (case q9c => decide)) | ((with_reducible refine' r_gK ?q9G ?q9X ?q9e ?q9g ?q9a ?q9b ?q9c ?_); (case q9G | q9X => assumption); (case q9g | q9a | q9b => exact rfl); (case q9e => k_is); (case q9c => decide)) | ((with_reducible refine' r_gC ?q9G ?q9v ?q9m ?q9o ?q9a ?q9b ?q9c ?_); (case q9G => assumption); (case q9v | q9a | q9b => exact rfl); (case q9m => k_extra "mem"); (case q9o => first | assumption | exact rfl); (case q9c => decide)) | ((with_reducible refine' r_alc ?q9w ?q9c ?q9k ?q9n ?q9s ?_); (case q9w | q9c | q9k => exact rfl); (case q9n => decide); (case q9s => (intro _; exact rfl))) | ((with_reducible refine' Assign_Tuple_swapped ?_ ?q9hs ?q9hw); rotate_left; (case q9hs | q9hw => exact rfl)) | ((with_reducible refine' r_unpackI ?q9a ?q9G ?q9m ?q9n ?_); (case q9a | q9G => assumption); (case q9m => k_extra "mem"); (case q9n => exact rfl); intro _ _) | ((with_reducible show wpAny _ _ (PySem.assignInOrder (List.map _ _) _) _ _ _); refine' r_swap2 ?_) | k_extra "while" | with_reducible refine r_wnext ?_ | with_reducible refine' evalPart_none_step ?_ | with_reducible refine' evalPart_some_step ?_ | with_reducible refine' GM.join ?_ | (with_reducible refine' lt_int ?_) | (with_reducible refine' r_add ?_ <;> intro _ _) | with_reducible refine' r_neStr ?_ | ((with_reducible refine' r_addStr ?q9z ?_); (case q9z => k_extra "size"); intro _ _) | with_reducible refine' r_isSame ?_ | with_reducible refine' r_isnotSame ?_ | with_reducible refine' r_isIR ?_ | with_reducible refine' r_isnotIR ?_)))
          refine wpAny_bind (wpAny_standAt (wpAny_pure ?_))
          refine r_dpair (wpAny_bind (wpAny_fresh (wpAny_pure (wpAny_bind ?_))))
          (repeat' ((first | k_extra "w" | ((with_reducible refine' r_nameC ?q9G ?q9v ?q9m ?q9o ?q9a ?q9b ?q9c ?_); (case q9G => assumption); (case q9v | q9a | q9b => exact rfl); (case q9m => k_extra "mem"); (case q9o => first | assumption | exact rfl); (case q9c => decide)) | with_reducible refine' wpAny_Slice ?_ | ((with_reducible refine' r_gL ?q9G ?q9n ?q9m ?q9v ?q9a ?q9b ?q9c ?_); (case q9G | q9n => assumption); (case q9m => k_extra "mem"); (case q9v => assumption); (case q9a | q9b => exact rfl); (case q9c => decide)) | ((with_reducible refine' r_gK ?q9G ?q9X ?q9e ?q9g ?q9a ?q9b ?q9c ?_); (case q9G | q9X => assumption); (case q9g | q9a | q9b => exact rfl); (case q9e => k_is); (case q9c => decide)) | ((with_reducible refine' r_gC ?q9G ?q9v ?q9m ?q9o ?q9a ?q9b ?q9c ?_); (case q9G => assumption); (case q9v | q9a | q9b => exact rfl); (case q9m => k_extra "mem"); (case q9o => first | assumption | exact rfl); (case q9c => decide)) | ((with_reducible refine' r_alc ?q9w ?q9c ?q9k ?q9n ?q9s ?_); (case q9w | q9c | q9k => exact rfl); (case q9n => decide); (case q9s => (intro _; exact rfl))) | ((with_reducible refine' Assign_Tuple_swapped ?_ ?q9hs ?q9hw); rotate_left; (case q9hs | q9hw => exact rfl)) | ((with_reducible refine' r_unpackI ?q9a ?q9G ?q9m ?q9n ?_); (case q9a | q9G => assumption); (case q9m => k_extra "mem"); (case q9n => exact rfl); intro _ _) | ((with_reducible show wpAny _ _ (PySem.assignInOrder (List.map _ _) _) _ _ _); refine' r_swap2 ?_) | k_extra "while" | with_reducible refine r_wnext ?_ | with_reducible refine' evalPart_none_step ?_ | with_reducible refine' evalPart_some_step ?_ | with_reducible refine' GM.join ?_ | (with_reducible refine' lt_int ?_) | (with_reducible refine' r_add ?_ <;> intro _ _) | with_reducible refine' r_neStr ?_ | ((with_reducible refine' r_addStr ?q9z ?_); (case q9z => k_extra "size"); intro _ _) | with_reducible refine' r_isSame ?_ | with_reducible refine' r_isnotSame ?_ | with_reducible refine' r_isIR ?_ | with_reducible refine' r_isnotIR ?_)))
          refine wpAny_bind (wpAny_standAt (wpAny_pure ?_))
          refine r_dpair (wpAny_bind (wpAny_fresh (wpAny_pure (wpAny_bind ?_))))
          (repeat' ((first | k_extra "w" | ((with_reducible refine' r_nameC ?q9G ?q9v ?q9m ?q9o ?q9a ?q9b ?q9c ?_); (case q9G => assumption); (case q9v | q9a | q9b => exact rfl); (case q9m => k_extra "mem"); (case q9o => first | assumption | exact rfl); (case q9c => decide)) | with_reducible refine' wpAny_Slice ?_ | ((with_reducible refine' r_gL ?q9G ?q9n ?q9m ?q9v ?q9a ?q9b ?q9c ?_); (case q9G | q9n => assumption); (case q9m => k_extra "mem"); (case q9v => assumption); (case q9a | q9b => exact rfl); (case q9c => decide)) | ((with_reducible refine' r_gK ?q9G ?q9X ?q9e ?q9g ?q9a ?q9b ?q9c ?_); (case q9G | q9X => assumption); (case q9g | q9a | q9b => exact rfl); (case q9e => k_is); (case q9c => decide)) | ((with_reducible refine' r_gC ?q9G ?q9v ?q9m ?q9o ?q9a ?q9b ?q9c ?_); (case q9G => assumption); (case q9v | q9a | q9b => exact rfl); (case q9m => k_extra "mem"); (case q9o => first | assumption | exact rfl); (case q9c => decide)) | ((with_reducible refine' r_alc ?q9w ?q9c ?q9k ?q9n ?q9s ?_); (case q9w | q9c | q9k => exact rfl); (case q9n => decide); (case q9s => (intro _; exact rfl))) | ((with_reducible refine' Assign_Tuple_swapped ?_ ?q9hs ?q9hw); rotate_left; (case q9hs | q9hw => exact rfl)) | ((with_reducible refine' r_unpackI ?q9a ?q9G ?q9m ?q9n ?_); (case q9a | q9G => assumption); (case q9m => k_extra "mem"); (case q9n => exact rfl); intro _ _) | ((with_reducible show wpAny _ _ (PySem.assignInOrder (List.map _ _) _) _ _ _); refine' r_swap2 ?_) | k_extra "while" | with_reducible refine r_wnext ?_ | with_reducible refine' evalPart_none_step ?_ | with_reducible refine' evalPart_some_step ?_ | with_reducible refine' GM.join ?_ | (with_reducible refine' lt_int ?_) | (with_reducible refine' r_add ?_ <;> intro _ _) | with_reducible refine' r_neStr ?_ | ((with_reducible refine' r_addStr ?q9z ?_); (case q9z => k_extra "size"); intro _ _) | with_reducible refine' r_isSame ?_ | with_reducible refine' r_isnotSame ?_ | with_reducible refine' r_isIR ?_ | with_reducible refine' r_isnotIR ?_)))
          refine wpAny_bind (wpAny_standAt (wpAny_pure ?_))
          refine r_dpairs ?_
          refine ⟨[(Str.ofString "quote", .str (Str.ofString "'") _), (Str.ofString "function", .str (Str.ofString "#'") _), (Str.ofString ",@", .str (Str.ofString ",@") _)], ⟨strKind_is _ w _ _, rfl, strKind_is _ w _ _, rfl, strKind_is _ w _ _, rfl, trivial⟩, Heap.dictOf_iff.mpr ⟨_, G.get (.head _), kd_empty⟩, fun h2 hm hs2 => ?_⟩
          obtain ⟨oD, ho, hD⟩ := Heap.dictOf_iff.mp hm
          have G := G.put .head hs2 ho
          obtain ⟨hd1, hd2⟩ : oD.cls = .type "dict" ∧ oD.dict = none := by
            obtain ⟨es, ep, ⟨a, b, c⟩, _⟩ := hD
            exact ⟨a, b⟩
          refine' r_dmeth ?G ?m ?c ?d PySem.F.slot_dict_get PySem.F.type_dict_get ?_
          case G => assumption
          case m => exact .head _
          case c => exact hd1
          case d => exact hd2
          (repeat' ((first | k_extra "w" | ((with_reducible refine' r_nameC ?q9G ?q9v ?q9m ?q9o ?q9a ?q9b ?q9c ?_); (case q9G => assumption); (case q9v | q9a | q9b => exact rfl); (case q9m => k_extra "mem"); (case q9o => first | assumption | exact rfl); (case q9c => decide)) | with_reducible refine' wpAny_Slice ?_ | ((with_reducible refine' r_gL ?q9G ?q9n ?q9m ?q9v ?q9a ?q9b ?q9c ?_); (case q9G | q9n => assumption); (case q9m => k_extra "mem"); (case q9v => assumption); (case q9a | q9b => exact rfl); (case q9c => decide)) | ((with_reducible refine' r_gK ?q9G ?q9X ?q9e ?q9g ?q9a ?q9b ?q9c ?_); (case q9G | q9X => assumption); (case q9g | q9a | q9b => exact rfl); (case q9e => k_is); (case q9c => decide)) | ((with_reducible refine' r_gC ?q9G ?q9v ?q9m ?q9o ?q9a ?q9b ?q9c ?_); (case q9G => assumption); (case q9v | q9a | q9b => exact rfl); (case q9m => k_extra "mem"); (case q9o => first | assumption | exact rfl); (case q9c => decide)) | ((with_reducible refine' r_alc ?q9w ?q9c ?q9k ?q9n ?q9s ?_); (case q9w | q9c | q9k => exact rfl); (case q9n => decide); (case q9s => (intro _; exact rfl))) | ((with_reducible refine' Assign_Tuple_swapped ?_ ?q9hs ?q9hw); rotate_left; (case q9hs | q9hw => exact rfl)) | ((with_reducible refine' r_unpackI ?q9a ?q9G ?q9m ?q9n ?_); (case q9a | q9G => assumption); (case q9m => k_extra "mem"); (case q9n => exact rfl); intro _ _) | ((with_reducible show wpAny _ _ (PySem.assignInOrder (List.map _ _) _) _ _ _); refine' r_swap2 ?_) | k_extra "while" | with_reducible refine r_wnext ?_ | with_reducible refine' evalPart_none_step ?_ | with_reducible refine' evalPart_some_step ?_ | with_reducible refine' GM.join ?_ | (with_reducible refine' lt_int ?_) | (with_reducible refine' r_add ?_ <;> intro _ _) | with_reducible refine' r_neStr ?_ | ((with_reducible refine' r_addStr ?q9z ?_); (case q9z => k_extra "size"); intro _ _) | with_reducible refine' r_isSame ?_ | with_reducible refine' r_isnotSame ?_ | with_reducible refine' r_isIR ?_ | with_reducible refine' r_isnotIR ?_)))
          refine r_item (by assumption) (by k_extra "mem") (by decide) (by decide) (v := .ref sx) rfl (by with_unfolding_all rfl) ?_
          (repeat' ((first | k_extra "w" | ((with_reducible refine' r_nameC ?q9G ?q9v ?q9m ?q9o ?q9a ?q9b ?q9c ?_); (case q9G => assumption); (case q9v | q9a | q9b => exact rfl); (case q9m => k_extra "mem"); (case q9o => first | assumption | exact rfl); (case q9c => decide)) | with_reducible refine' wpAny_Slice ?_ | ((with_reducible refine' r_gL ?q9G ?q9n ?q9m ?q9v ?q9a ?q9b ?q9c ?_); (case q9G | q9n => assumption); (case q9m => k_extra "mem"); (case q9v => assumption); (case q9a | q9b => exact rfl); (case q9c => decide)) | ((with_reducible refine' r_gK ?q9G ?q9X ?q9e ?q9g ?q9a ?q9b ?q9c ?_); (case q9G | q9X => assumption); (case q9g | q9a | q9b => exact rfl); (case q9e => k_is); (case q9c => decide)) | ((with_reducible refine' r_gC ?q9G ?q9v ?q9m ?q9o ?q9a ?q9b ?q9c ?_); (case q9G => assumption); (case q9v | q9a | q9b => exact rfl); (case q9m => k_extra "mem"); (case q9o => first | assumption | exact rfl); (case q9c => decide)) | ((with_reducible refine' r_alc ?q9w ?q9c ?q9k ?q9n ?q9s ?_); (case q9w | q9c | q9k => exact rfl); (case q9n => decide); (case q9s => (intro _; exact rfl))) | ((with_reducible refine' Assign_Tuple_swapped ?_ ?q9hs ?q9hw); rotate_left; (case q9hs | q9hw => exact rfl)) | ((with_reducible refine' r_unpackI ?q9a ?q9G ?q9m ?q9n ?_); (case q9a | q9G => assumption); (case q9m => k_extra "mem"); (case q9n => exact rfl); intro _ _) | ((with_reducible show wpAny _ _ (PySem.assignInOrder (List.map _ _) _) _ _ _); refine' r_swap2 ?_) | k_extra "while" | with_reducible refine r_wnext ?_ | with_reducible refine' evalPart_none_step ?_ | with_reducible refine' evalPart_some_step ?_ | with_reducible refine' GM.join ?_ | (with_reducible refine' lt_int ?_) | (with_reducible refine' r_add ?_ <;> intro _ _) | with_reducible refine' r_neStr ?_ | ((with_reducible refine' r_addStr ?q9z ?_); (case q9z => k_extra "size"); intro _ _) | with_reducible refine' r_isSame ?_ | with_reducible refine' r_isnotSame ?_ | with_reducible refine' r_isIR ?_ | with_reducible refine' r_isnotIR ?_)))
          refine r_dget (by assumption) (by assumption) (.head _) hD low9 ?_
          obtain ⟨u9, e9⟩ := mark_look s
          exact hBQ _ _ _ _ ⟨markStr s, u9, e9, by rw [hq]; exact mark_codes s, rfl⟩ (Lg.sel (by assumption) (by k_extra "sel"))
        · have hq : quoteOf n [d0, d1] = [] := by show markOf n d0 = _; unfold markOf; rw [hs]
          have H2 := H.mono (news' := ((l,listOf [v0,v1].toArray n')::(L+4,o1)::(L+3,o2)::(L+2,o3)::(L+1,o4)::rest)) (by k_extra "sub")
          (repeat' ((first | k_extra "w" | ((with_reducible refine' r_nameC ?q9G ?q9v ?q9m ?q9o ?q9a ?q9b ?q9c ?_); (case q9G => assumption); (case q9v | q9a | q9b => exact rfl); (case q9m => k_extra "mem"); (case q9o => first | assumption | exact rfl); (case q9c => decide)) | with_reducible refine' wpAny_Slice ?_ | ((with_reducible refine' r_gL ?q9G ?q9n ?q9m ?q9v ?q9a ?q9b ?q9c ?_); (case q9G | q9n => assumption); (case q9m => k_extra "mem"); (case q9v => assumption); (case q9a | q9b => exact rfl); (case q9c => decide)) | ((with_reducible refine' r_gK ?q9G ?q9X ?q9e ?q9g ?q9a ?q9b ?q9c ?_); (case q9G | q9X => assumption); (case q9g | q9a | q9b => exact rfl); (case q9e => k_is); (case q9c => decide)) | ((with_reducible refine' r_gC ?q9G ?q9v ?q9m ?q9o ?q9a ?q9b ?q9c ?_); (case q9G => assumption); (case q9v | q9a | q9b => exact rfl); (case q9m => k_extra "mem"); (case q9o => first | assumption | exact rfl); (case q9c => decide)) | ((with_reducible refine' r_alc ?q9w ?q9c ?q9k ?q9n ?q9s ?_); (case q9w | q9c | q9k => exact rfl); (case q9n => decide); (case q9s => (intro _; exact rfl))) | ((with_reducible refine' Assign_Tuple_swapped ?_ ?q9hs ?q9hw); rotate_left; (case q9hs | q9hw => exact rfl)) | ((with_reducible refine' r_unpackI ?q9a ?q9G ?q9m ?q9n ?_); (case q9a | q9G => assumption); (case q9m => k_extra "mem"); (case q9n => exact rfl); intro _ _) | ((with_reducible show wpAny _ _ (PySem.assignInOrder (List.map _ _) _) _ _ _); refine' r_swap2 ?_) | k_extra "while" | with_reducible refine r_wnext ?_ | with_reducible refine' evalPart_none_step ?_ | with_reducible refine' evalPart_some_step ?_ | with_reducible refine' GM.join ?_ | (with_reducible refine' lt_int ?_) | (with_reducible refine' r_add ?_ <;> intro _ _) | with_reducible refine' r_neStr ?_ | ((with_reducible refine' r_addStr ?q9z ?_); (case q9z => k_extra "size"); intro _ _) | with_reducible refine' r_isSame ?_ | with_reducible refine' r_isnotSame ?_ | with_reducible refine' r_isIR ?_ | with_reducible refine' r_isnotIR ?_)))
          exact hBQ _ _ _ _ ⟨_, _, rfl, by rw [hq]; decide +kernel, rfl⟩ (Lg.sel (by assumption) (by k_extra "sel"))
      · have hq : quoteOf n ds = [] := Decidable.byContradiction fun z => h2 (ht.trans (quote_two z))
        (repeat' ((first | k_extra "w" | ((with_reducible refine' r_nameC ?q9G ?q9v ?q9m ?q9o ?q9a ?q9b ?q9c ?_); (case q9G => assumption); (case q9v | q9a | q9b => exact rfl); (case q9m => k_extra "mem"); (case q9o => first | assumption | exact rfl); (case q9c => decide)) | with_reducible refine' wpAny_Slice ?_ | ((with_reducible refine' r_gL ?q9G ?q9n ?q9m ?q9v ?q9a ?q9b ?q9c ?_); (case q9G | q9n => assumption); (case q9m => k_extra "mem"); (case q9v => assumption); (case q9a | q9b => exact rfl); (case q9c => decide)) | ((with_reducible refine' r_gK ?q9G ?q9X ?q9e ?q9g ?q9a ?q9b ?q9c ?_); (case q9G | q9X => assumption); (case q9g | q9a | q9b => exact rfl); (case q9e => k_is); (case q9c => decide)) | ((with_reducible refine' r_gC ?q9G ?q9v ?q9m ?q9o ?q9a ?q9b ?q9c ?_); (case q9G => assumption); (case q9v | q9a | q9b => exact rfl); (case q9m => k_extra "mem"); (case q9o => first | assumption | exact rfl); (case q9c => decide)) | ((with_reducible refine' r_alc ?q9w ?q9c ?q9k ?q9n ?q9s ?_); (case q9w | q9c | q9k => exact rfl); (case q9n => decide); (case q9s => (intro _; exact rfl))) | ((with_reducible refine' Assign_Tuple_swapped ?_ ?q9hs ?q9hw); rotate_left; (case q9hs | q9hw => exact rfl)) | ((with_reducible refine' r_unpackI ?q9a ?q9G ?q9m ?q9n ?_); (case q9a | q9G => assumption); (case q9m => k_extra "mem"); (case q9n => exact rfl); intro _ _) | ((with_reducible show wpAny _ _ (PySem.assignInOrder (List.map _ _) _) _ _ _); refine' r_swap2 ?_) | k_extra "while" | with_reducible refine r_wnext ?_ | with_reducible refine' evalPart_none_step ?_ | with_reducible refine' evalPart_some_step ?_ | with_reducible refine' GM.join ?_ | (with_reducible refine' lt_int ?_) | (with_reducible refine' r_add ?_ <;> intro _ _) | with_reducible refine' r_neStr ?_ | ((with_reducible refine' r_addStr ?q9z ?_); (case q9z => k_extra "size"); intro _ _) | with_reducible refine' r_isSame ?_ | with_reducible refine' r_isnotSame ?_ | with_reducible refine' r_isIR ?_ | with_reducible refine' r_isnotIR ?_)))
        exact hBQ _ _ _ _ ⟨_, _, rfl, by rw [hq]; decide +kernel, rfl⟩ (Lg.sel (by assumption) (by k_extra "sel"))
    rintro v nw h' t' ⟨mk, mu, rfl, hmk, rfl⟩ G
    (repeat' ((((fail_if_success (with_reducible refine r_stopB ?_)); (fail_if_success (with_reducible refine r_stopE ?_)); (first | k_extra "w" | ((with_reducible refine' r_nameC ?q9G ?q9v ?q9m ?q9o ?q9a ?q9b ?q9c ?_); (case q9G => assumption); (case q9v | q9a | q9b => exact rfl); (case q9m => k_extra "mem"); (case q9o => first | assumption | exact rfl); (case q9c => decide)) | with_reducible refine' wpAny_Slice ?_ | ((with_reducible refine' r_gL ?q9G ?q9n ?q9m ?q9v ?q9a ?q9b ?q9c ?_); (case q9G | q9n => assumption); (case q9m => k_extra "mem"); (case q9v => assumption); (case q9a | q9b => exact rfl); (case q9c => decide)) | ((with_reducible refine' r_gK ?q9G ?q9X ?q9e ?q9g ?q9a ?q9b ?q9c ?_); (case q9G | q9X => assumption); (case q9g | q9a | q9b => exact rfl); (case q9e => k_is); (case q9c => decide)) | ((with_reducible refine' r_gC ?q9G ?q9v ?q9m ?q9o ?q9a ?q9b ?q9c ?_); (case q9G => assumption); (case q9v | q9a | q9b => exact rfl); (case q9m => k_extra "mem"); (case q9o => first | assumption | exact rfl); (case q9c => decide)) | ((with_reducible refine' r_alc ?q9w ?q9c ?q9k ?q9n ?q9s ?_); (case q9w | q9c | q9k => exact rfl); (case q9n => decide); (case q9s => (intro _; exact rfl))) | ((with_reducible refine' Assign_Tuple_swapped ?_ ?q9hs ?q9hw); rotate_left; (case q9hs | q9hw => exact rfl)) | ((with_reducible refine' r_unpackI ?q9a ?q9G ?q9m ?q9n ?_); (case q9a | q9G => assumption); (case q9m => k_extra "mem"); (case q9n => exact rfl); intro _ _) | ((with_reducible show wpAny _ _ (PySem.assignInOrder (List.map _ _) _) _ _ _); refine' r_swap2 ?_) | k_extra "while" | with_reducible refine r_wnext ?_ | with_reducible refine' evalPart_none_step ?_ | with_reducible refine' evalPart_some_step ?_ | with_reducible refine' GM.join ?_ | (with_reducible refine' lt_int ?_) | (with_reducible refine' r_add ?_ <;> intro _ _) | with_reducible refine' r_neStr ?_ | ((with_reducible refine' r_addStr ?q9z ?_); (case q9z => k_extra "size"); intro _ _) | with_reducible refine' r_isSame ?_ | with_reducible refine' r_isnotSame ?_ | with_reducible refine' r_isIR ?_ | with_reducible refine' r_isnotIR ?_)))))
    by_cases hq : dot = false ∧ quoteOf n ds ≠ [] ∧ sh = true
    · obtain ⟨hdd, hq1, hq2⟩ := hq
      subst hdd hq2
      have e7 : tv = .ref 77 := htl
      subst e7
      have hm1 := codes_ne (by rw [hmk]; exact hq1)
      have h2l := quote_two hq1
      obtain ⟨d0, d1, rfl⟩ := two_of h2l
      obtain ⟨v0, v1, rfl⟩ := two_of (ht.trans h2l)
      (repeat' ((first | k_extra "w" | ((with_reducible refine' r_nameC ?q9G ?q9v ?q9m ?q9o ?q9a ?q9b ?q9c ?_); (case q9G => assumption); (case q9v | q9a | q9b => exact rfl); (case q9m => k_extra "mem"); (case q9o => first | assumption | exact rfl); (case q9c => decide)) | with_reducible refine' wpAny_Slice ?_ | ((with_reducible refine' r_gL ?q9G ?q9n ?q9m ?q9v ?q9a ?q9b ?q9c ?_); (case q9G | q9n => assumption); (case q9m => k_extra "mem"); (case q9v => assumption); (case q9a | q9b => exact rfl); (case q9c => decide)) | ((with_reducible refine' r_gK ?q9G ?q9X ?q9e ?q9g ?q9a ?q9b ?q9c ?_); (case q9G | q9X => assumption); (case q9g | q9a | q9b => exact rfl); (case q9e => k_is); (case q9c => decide)) | ((with_reducible refine' r_gC ?q9G ?q9v ?q9m ?q9o ?q9a ?q9b ?q9c ?_); (case q9G => assumption); (case q9v | q9a | q9b => exact rfl); (case q9m => k_extra "mem"); (case q9o => first | assumption | exact rfl); (case q9c => decide)) | ((with_reducible refine' r_alc ?q9w ?q9c ?q9k ?q9n ?q9s ?_); (case q9w | q9c | q9k => exact rfl); (case q9n => decide); (case q9s => (intro _; exact rfl))) | ((with_reducible refine' Assign_Tuple_swapped ?_ ?q9hs ?q9hw); rotate_left; (case q9hs | q9hw => exact rfl)) | ((with_reducible refine' r_unpackI ?q9a ?q9G ?q9m ?q9n ?_); (case q9a | q9G => assumption); (case q9m => k_extra "mem"); (case q9n => exact rfl); intro _ _) | ((with_reducible show wpAny _ _ (PySem.assignInOrder (List.map _ _) _) _ _ _); refine' r_swap2 ?_) | k_extra "while" | with_reducible refine r_wnext ?_ | with_reducible refine' evalPart_none_step ?_ | with_reducible refine' evalPart_some_step ?_ | with_reducible refine' GM.join ?_ | (with_reducible refine' lt_int ?_) | (with_reducible refine' r_add ?_ <;> intro _ _) | with_reducible refine' r_neStr ?_ | ((with_reducible refine' r_addStr ?q9z ?_); (case q9z => k_extra "size"); intro _ _) | with_reducible refine' r_isSame ?_ | with_reducible refine' r_isnotSame ?_ | with_reducible refine' r_isIR ?_ | with_reducible refine' r_isnotIR ?_)))
      refine r_item (by assumption) (by k_extra "mem") (by decide) (by decide) (v := v1) rfl (by with_unfolding_all rfl) ?_
      (repeat' ((first | k_extra "w" | ((with_reducible refine' r_nameC ?q9G ?q9v ?q9m ?q9o ?q9a ?q9b ?q9c ?_); (case q9G => assumption); (case q9v | q9a | q9b => exact rfl); (case q9m => k_extra "mem"); (case q9o => first | assumption | exact rfl); (case q9c => decide)) | with_reducible refine' wpAny_Slice ?_ | ((with_reducible refine' r_gL ?q9G ?q9n ?q9m ?q9v ?q9a ?q9b ?q9c ?_); (case q9G | q9n => assumption); (case q9m => k_extra "mem"); (case q9v => assumption); (case q9a | q9b => exact rfl); (case q9c => decide)) | ((with_reducible refine' r_gK ?q9G ?q9X ?q9e ?q9g ?q9a ?q9b ?q9c ?_); (case q9G | q9X => assumption); (case q9g | q9a | q9b => exact rfl); (case q9e => k_is); (case q9c => decide)) | ((with_reducible refine' r_gC ?q9G ?q9v ?q9m ?q9o ?q9a ?q9b ?q9c ?_); (case q9G => assumption); (case q9v | q9a | q9b => exact rfl); (case q9m => k_extra "mem"); (case q9o => first | assumption | exact rfl); (case q9c => decide)) | ((with_reducible refine' r_alc ?q9w ?q9c ?q9k ?q9n ?q9s ?_); (case q9w | q9c | q9k => exact rfl); (case q9n => decide); (case q9s => (intro _; exact rfl))) | ((with_reducible refine' Assign_Tuple_swapped ?_ ?q9hs ?q9hw); rotate_left; (case q9hs | q9hw => exact rfl)) | ((with_reducible refine' r_unpackI ?q9a ?q9G ?q9m ?q9n ?_); (case q9a | q9G => assumption); (case q9m => k_extra "mem"); (case q9n => exact rfl); intro _ _) | ((with_reducible show wpAny _ _ (PySem.assignInOrder (List.map _ _) _) _ _ _); refine' r_swap2 ?_) | k_extra "while" | with_reducible refine r_wnext ?_ | with_reducible refine' evalPart_none_step ?_ | with_reducible refine' evalPart_some_step ?_ | with_reducible refine' GM.join ?_ | (with_reducible refine' lt_int ?_) | (with_reducible refine' r_add ?_ <;> intro _ _) | with_reducible refine' r_neStr ?_ | ((with_reducible refine' r_addStr ?q9z ?_); (case q9z => k_extra "size"); intro _ _) | with_reducible refine' r_isSame ?_ | with_reducible refine' r_isnotSame ?_ | with_reducible refine' r_isIR ?_ | with_reducible refine' r_isnotIR ?_)))
      have R1 := it 1 v1 d1 rfl rfl
      have okd1 := ok d1 (.tail _ (.head _))
      refine cal (by assumption) (M _ d1 b v1 len lev (dep + 1) lu lt _ true (R1.mono (by k_extra "sub")) okd1) ?_ (h1 := by k_extra "le") (h2 := by k_extra "le")
      rintro v' nw h' t' ⟨y, u9, rfl, rfl, hy⟩ G
      have hz1 : mk.length + y.length ≤ sizeLine := by
        have h1 := txt_len len lev true n d1 (dep + 1) okd1
        rw [← hy, codesOf_len] at h1
        have h2 := mark_len n [d0, d1]
        rw [← hmk, codesOf_len] at h2
        have := sizeLine_eq
        unfold tbd at hT
        omega
      (repeat' ((first | k_extra "w" | ((with_reducible refine' r_nameC ?q9G ?q9v ?q9m ?q9o ?q9a ?q9b ?q9c ?_); (case q9G => assumption); (case q9v | q9a | q9b => exact rfl); (case q9m => k_extra "mem"); (case q9o => first | assumption | exact rfl); (case q9c => decide)) | with_reducible refine' wpAny_Slice ?_ | ((with_reducible refine' r_gL ?q9G ?q9n ?q9m ?q9v ?q9a ?q9b ?q9c ?_); (case q9G | q9n => assumption); (case q9m => k_extra "mem"); (case q9v => assumption); (case q9a | q9b => exact rfl); (case q9c => decide)) | ((with_reducible refine' r_gK ?q9G ?q9X ?q9e ?q9g ?q9a ?q9b ?q9c ?_); (case q9G | q9X => assumption); (case q9g | q9a | q9b => exact rfl); (case q9e => k_is); (case q9c => decide)) | ((with_reducible refine' r_gC ?q9G ?q9v ?q9m ?q9o ?q9a ?q9b ?q9c ?_); (case q9G => assumption); (case q9v | q9a | q9b => exact rfl); (case q9m => k_extra "mem"); (case q9o => first | assumption | exact rfl); (case q9c => decide)) | ((with_reducible refine' r_alc ?q9w ?q9c ?q9k ?q9n ?q9s ?_); (case q9w | q9c | q9k => exact rfl); (case q9n => decide); (case q9s => (intro _; exact rfl))) | ((with_reducible refine' Assign_Tuple_swapped ?_ ?q9hs ?q9hw); rotate_left; (case q9hs | q9hw => exact rfl)) | ((with_reducible refine' r_unpackI ?q9a ?q9G ?q9m ?q9n ?_); (case q9a | q9G => assumption); (case q9m => k_extra "mem"); (case q9n => exact rfl); intro _ _) | ((with_reducible show wpAny _ _ (PySem.assignInOrder (List.map _ _) _) _ _ _); refine' r_swap2 ?_) | k_extra "while" | with_reducible refine r_wnext ?_ | with_reducible refine' evalPart_none_step ?_ | with_reducible refine' evalPart_some_step ?_ | with_reducible refine' GM.join ?_ | (with_reducible refine' lt_int ?_) | (with_reducible refine' r_add ?_ <;> intro _ _) | with_reducible refine' r_neStr ?_ | ((with_reducible refine' r_addStr ?q9z ?_); (case q9z => k_extra "size"); intro _ _) | with_reducible refine' r_isSame ?_ | with_reducible refine' r_isnotSame ?_ | with_reducible refine' r_isIR ?_ | with_reducible refine' r_isnotIR ?_)))
      exact hQ _ _ <| r_backP (by assumption) ⟨_, _, rfl, rfl, by rw [if_pos ⟨rfl, hq1, rfl⟩, codesOf_app, hmk, hy]⟩ (by k_extra "sel")
    rw [if_neg hq] at hQ
    refine cutN (by assumption) ?_ ?_
    · intro BQ hBQ
      cases dot with
      | true =>
        obtain ⟨u7, e7⟩ := (show ∃ u, tv = .int 7 u from htl)
        subst e7
        (repeat' ((first | k_extra "w" | ((with_reducible refine' r_nameC ?q9G ?q9v ?q9m ?q9o ?q9a ?q9b ?q9c ?_); (case q9G => assumption); (case q9v | q9a | q9b => exact rfl); (case q9m => k_extra "mem"); (case q9o => first | assumption | exact rfl); (case q9c => decide)) | with_reducible refine' wpAny_Slice ?_ | ((with_reducible refine' r_gL ?q9G ?q9n ?q9m ?q9v ?q9a ?q9b ?q9c ?_); (case q9G | q9n => assumption); (case q9m => k_extra "mem"); (case q9v => assumption); (case q9a | q9b => exact rfl); (case q9c => decide)) | ((with_reducible refine' r_gK ?q9G ?q9X ?q9e ?q9g ?q9a ?q9b ?q9c ?_); (case q9G | q9X => assumption); (case q9g | q9a | q9b => exact rfl); (case q9e => k_is); (case q9c => decide)) | ((with_reducible refine' r_gC ?q9G ?q9v ?q9m ?q9o ?q9a ?q9b ?q9c ?_); (case q9G => assumption); (case q9v | q9a | q9b => exact rfl); (case q9m => k_extra "mem"); (case q9o => first | assumption | exact rfl); (case q9c => decide)) | ((with_reducible refine' r_alc ?q9w ?q9c ?q9k ?q9n ?q9s ?_); (case q9w | q9c | q9k => exact rfl); (case q9n => decide); (case q9s => (intro _; exact rfl))) | ((with_reducible refine' Assign_Tuple_swapped ?_ ?q9hs ?q9hw); rotate_left; (case q9hs | q9hw => exact rfl)) | ((with_reducible refine' r_unpackI ?q9a ?q9G ?q9m ?q9n ?_); (case q9a | q9G => assumption); (case q9m => k_extra "mem"); (case q9n => exact rfl); intro _ _) | ((with_reducible show wpAny _ _ (PySem.assignInOrder (List.map _ _) _) _ _ _); refine' r_swap2 ?_) | k_extra "while" | with_reducible refine r_wnext ?_ | with_reducible refine' evalPart_none_step ?_ | with_reducible refine' evalPart_some_step ?_ | with_reducible refine' GM.join ?_ | (with_reducible refine' lt_int ?_) | (with_reducible refine' r_add ?_ <;> intro _ _) | with_reducible refine' r_neStr ?_ | ((with_reducible refine' r_addStr ?q9z ?_); (case q9z => k_extra "size"); intro _ _) | with_reducible refine' r_isSame ?_ | with_reducible refine' r_isnotSame ?_ | with_reducible refine' r_isIR ?_ | with_reducible refine' r_isnotIR ?_)))
        exact hBQ _ _ (by assumption)
      | false =>
        have e7 : tv = .ref 77 := htl
        subst e7
        by_cases hs : sh = true
        · have hm1 := codes_eq (by rw [hmk]; exact Decidable.byContradiction fun z => hq ⟨rfl, z, hs⟩)
          (repeat' ((first | k_extra "w" | ((with_reducible refine' r_nameC ?q9G ?q9v ?q9m ?q9o ?q9a ?q9b ?q9c ?_); (case q9G => assumption); (case q9v | q9a | q9b => exact rfl); (case q9m => k_extra "mem"); (case q9o => first | assumption | exact rfl); (case q9c => decide)) | with_reducible refine' wpAny_Slice ?_ | ((with_reducible refine' r_gL ?q9G ?q9n ?q9m ?q9v ?q9a ?q9b ?q9c ?_); (case q9G | q9n => assumption); (case q9m => k_extra "mem"); (case q9v => assumption); (case q9a | q9b => exact rfl); (case q9c => decide)) | ((with_reducible refine' r_gK ?q9G ?q9X ?q9e ?q9g ?q9a ?q9b ?q9c ?_); (case q9G | q9X => assumption); (case q9g | q9a | q9b => exact rfl); (case q9e => k_is); (case q9c => decide)) | ((with_reducible refine' r_gC ?q9G ?q9v ?q9m ?q9o ?q9a ?q9b ?q9c ?_); (case q9G => assumption); (case q9v | q9a | q9b => exact rfl); (case q9m => k_extra "mem"); (case q9o => first | assumption | exact rfl); (case q9c => decide)) | ((with_reducible refine' r_alc ?q9w ?q9c ?q9k ?q9n ?q9s ?_); (case q9w | q9c | q9k => exact rfl); (case q9n => decide); (case q9s => (intro _; exact rfl))) | ((with_reducible refine' Assign_Tuple_swapped ?_ ?q9hs ?q9hw); rotate_left; (case q9hs | q9hw => exact rfl)) | ((with_reducible refine' r_unpackI ?q9a ?q9G ?q9m ?q9n ?_); (case q9a | q9G => assumption); (case q9m => k_extra "mem"); (case q9n => exact rfl); intro _ _) | ((with_reducible show wpAny _ _ (PySem.assignInOrder (List.map _ _) _) _ _ _); refine' r_swap2 ?_) | k_extra "while" | with_reducible refine r_wnext ?_ | with_reducible refine' evalPart_none_step ?_ | with_reducible refine' evalPart_some_step ?_ | with_reducible refine' GM.join ?_ | (with_reducible refine' lt_int ?_) | (with_reducible refine' r_add ?_ <;> intro _ _) | with_reducible refine' r_neStr ?_ | ((with_reducible refine' r_addStr ?q9z ?_); (case q9z => k_extra "size"); intro _ _) | with_reducible refine' r_isSame ?_ | with_reducible refine' r_isnotSame ?_ | with_reducible refine' r_isIR ?_ | with_reducible refine' r_isnotIR ?_)))
          exact hBQ _ _ (by assumption)
        · have hs2 : sh = false := by cases sh <;> first | rfl | exact absurd rfl hs
          by_cases hq3 : quoteOf n ds = []
          · have hm1 := codes_eq (by rw [hmk]; exact hq3)
            (repeat' ((first | k_extra "w" | ((with_reducible refine' r_nameC ?q9G ?q9v ?q9m ?q9o ?q9a ?q9b ?q9c ?_); (case q9G => assumption); (case q9v | q9a | q9b => exact rfl); (case q9m => k_extra "mem"); (case q9o => first | assumption | exact rfl); (case q9c => decide)) | with_reducible refine' wpAny_Slice ?_ | ((with_reducible refine' r_gL ?q9G ?q9n ?q9m ?q9v ?q9a ?q9b ?q9c ?_); (case q9G | q9n => assumption); (case q9m => k_extra "mem"); (case q9v => assumption); (case q9a | q9b => exact rfl); (case q9c => decide)) | ((with_reducible refine' r_gK ?q9G ?q9X ?q9e ?q9g ?q9a ?q9b ?q9c ?_); (case q9G | q9X => assumption); (case q9g | q9a | q9b => exact rfl); (case q9e => k_is); (case q9c => decide)) | ((with_reducible refine' r_gC ?q9G ?q9v ?q9m ?q9o ?q9a ?q9b ?q9c ?_); (case q9G => assumption); (case q9v | q9a | q9b => exact rfl); (case q9m => k_extra "mem"); (case q9o => first | assumption | exact rfl); (case q9c => decide)) | ((with_reducible refine' r_alc ?q9w ?q9c ?q9k ?q9n ?q9s ?_); (case q9w | q9c | q9k => exact rfl); (case q9n => decide); (case q9s => (intro _; exact rfl))) | ((with_reducible refine' Assign_Tuple_swapped ?_ ?q9hs ?q9hw); rotate_left; (case q9hs | q9hw => exact rfl)) | ((with_reducible refine' r_unpackI ?q9a ?q9G ?q9m ?q9n ?_); (case q9a | q9G => assumption); (case q9m => k_extra "mem"); (case q9n => exact rfl); intro _ _) | ((with_reducible show wpAny _ _ (PySem.assignInOrder (List.map _ _) _) _ _ _); refine' r_swap2 ?_) | k_extra "while" | with_reducible refine r_wnext ?_ | with_reducible refine' evalPart_none_step ?_ | with_reducible refine' evalPart_some_step ?_ | with_reducible refine' GM.join ?_ | (with_reducible refine' lt_int ?_) | (with_reducible refine' r_add ?_ <;> intro _ _) | with_reducible refine' r_neStr ?_ | ((with_reducible refine' r_addStr ?q9z ?_); (case q9z => k_extra "size"); intro _ _) | with_reducible refine' r_isSame ?_ | with_reducible refine' r_isnotSame ?_ | with_reducible refine' r_isIR ?_ | with_reducible refine' r_isnotIR ?_)))
            exact hBQ _ _ (by assumption)
          · have hm1 := codes_ne (by rw [hmk]; exact hq3)
            (repeat' ((first | k_extra "w" | ((with_reducible refine' r_nameC ?q9G ?q9v ?q9m ?q9o ?q9a ?q9b ?q9c ?_); (case q9G => assumption); (case q9v | q9a | q9b => exact rfl); (case q9m => k_extra "mem"); (case q9o => first | assumption | exact rfl); (case q9c => decide)) | with_reducible refine' wpAny_Slice ?_ | ((with_reducible refine' r_gL ?q9G ?q9n ?q9m ?q9v ?q9a ?q9b ?q9c ?_); (case q9G | q9n => assumption); (case q9m => k_extra "mem"); (case q9v => assumption); (case q9a | q9b => exact rfl); (case q9c => decide)) | ((with_reducible refine' r_gK ?q9G ?q9X ?q9e ?q9g ?q9a ?q9b ?q9c ?_); (case q9G | q9X => assumption); (case q9g | q9a | q9b => exact rfl); (case q9e => k_is); (case q9c => decide)) | ((with_reducible refine' r_gC ?q9G ?q9v ?q9m ?q9o ?q9a ?q9b ?q9c ?_); (case q9G => assumption); (case q9v | q9a | q9b => exact rfl); (case q9m => k_extra "mem"); (case q9o => first | assumption | exact rfl); (case q9c => decide)) | ((with_reducible refine' r_alc ?q9w ?q9c ?q9k ?q9n ?q9s ?_); (case q9w | q9c | q9k => exact rfl); (case q9n => decide); (case q9s => (intro _; exact rfl))) | ((with_reducible refine' Assign_Tuple_swapped ?_ ?q9hs ?q9hw); rotate_left; (case q9hs | q9hw => exact rfl)) | ((with_reducible refine' r_unpackI ?q9a ?q9G ?q9m ?q9n ?_); (case q9a | q9G => assumption); (case q9m => k_extra "mem"); (case q9n => exact rfl); intro _ _) | ((with_reducible show wpAny _ _ (PySem.assignInOrder (List.map _ _) _) _ _ _); refine' r_swap2 ?_) | k_extra "while" | with_reducible refine r_wnext ?_ | with_reducible refine' evalPart_none_step ?_ | with_reducible refine' evalPart_some_step ?_ | with_reducible refine' GM.join ?_ | (with_reducible refine' lt_int ?_) | (with_reducible refine' r_add ?_ <;> intro _ _) | with_reducible refine' r_neStr ?_ | ((with_reducible refine' r_addStr ?q9z ?_); (case q9z => k_extra "size"); intro _ _) | with_reducible refine' r_isSame ?_ | with_reducible refine' r_isnotSame ?_ | with_reducible refine' r_isIR ?_ | with_reducible refine' r_isnotIR ?_)))
            exact hBQ _ _ (by assumption)
    intro h' t' G
    (repeat' ((((fail_if_success (with_reducible refine r_stopB ?_)); (fail_if_success (with_reducible refine r_stopE ?_)); (first | k_extra "w" | ((with_reducible refine' r_nameC ?q9G ?q9v ?q9m ?q9o ?q9a ?q9b ?q9c ?_); (case q9G => assumption); (case q9v | q9a | q9b => exact rfl); (case q9m => k_extra "mem"); (case q9o => first | assumption | exact rfl); (case q9c => decide)) | with_reducible refine' wpAny_Slice ?_ | ((with_reducible refine' r_gL ?q9G ?q9n ?q9m ?q9v ?q9a ?q9b ?q9c ?_); (case q9G | q9n => assumption); (case q9m => k_extra "mem"); (case q9v => assumption); (case q9a | q9b => exact rfl); (case q9c => decide)) | ((with_reducible refine' r_gK ?q9G ?q9X ?q9e ?q9g ?q9a ?q9b ?q9c ?_); (case q9G | q9X => assumption); (case q9g | q9a | q9b => exact rfl); (case q9e => k_is); (case q9c => decide)) | ((with_reducible refine' r_gC ?q9G ?q9v ?q9m ?q9o ?q9a ?q9b ?q9c ?_); (case q9G => assumption); (case q9v | q9a | q9b => exact rfl); (case q9m => k_extra "mem"); (case q9o => first | assumption | exact rfl); (case q9c => decide)) | ((with_reducible refine' r_alc ?q9w ?q9c ?q9k ?q9n ?q9s ?_); (case q9w | q9c | q9k => exact rfl); (case q9n => decide); (case q9s => (intro _; exact rfl))) | ((with_reducible refine' Assign_Tuple_swapped ?_ ?q9hs ?q9hw); rotate_left; (case q9hs | q9hw => exact rfl)) | ((with_reducible refine' r_unpackI ?q9a ?q9G ?q9m ?q9n ?_); (case q9a | q9G => assumption); (case q9m => k_extra "mem"); (case q9n => exact rfl); intro _ _) | ((with_reducible show wpAny _ _ (PySem.assignInOrder (List.map _ _) _) _ _ _); refine' r_swap2 ?_) | k_extra "while" | with_reducible refine r_wnext ?_ | with_reducible refine' evalPart_none_step ?_ | with_reducible refine' evalPart_some_step ?_ | with_reducible refine' GM.join ?_ | (with_reducible refine' lt_int ?_) | (with_reducible refine' r_add ?_ <;> intro _ _) | with_reducible refine' r_neStr ?_ | ((with_reducible refine' r_addStr ?q9z ?_); (case q9z => k_extra "size"); intro _ _) | with_reducible refine' r_isSame ?_ | with_reducible refine' r_isnotSame ?_ | with_reducible refine' r_isIR ?_ | with_reducible refine' r_isnotIR ?_)))))
    refine cutV (by assumption) (fun v nw => ∃ l2 n2 ex, v = .ref l2 ∧ nw = ex ++ ((l,listOf ts.toArray n')::(L+4,o1)::(L+3,o2)::(L+2,o3)::(L+1,o4)::rest) ∧ (l2, listOf (pick len ts).toArray n2) ∈ nw) ?_ ?_
    · intro BQ hBQ
      by_cases hlen : len < 0
      · have e9 : pick len ts = ts := if_pos hlen
        (repeat' ((first | k_extra "w" | ((with_reducible refine' r_nameC ?q9G ?q9v ?q9m ?q9o ?q9a ?q9b ?q9c ?_); (case q9G => assumption); (case q9v | q9a | q9b => exact rfl); (case q9m => k_extra "mem"); (case q9o => first | assumption | exact rfl); (case q9c => decide)) | with_reducible refine' wpAny_Slice ?_ | ((with_reducible refine' r_gL ?q9G ?q9n ?q9m ?q9v ?q9a ?q9b ?q9c ?_); (case q9G | q9n => assumption); (case q9m => k_extra "mem"); (case q9v => assumption); (case q9a | q9b => exact rfl); (case q9c => decide)) | ((with_reducible refine' r_gK ?q9G ?q9X ?q9e ?q9g ?q9a ?q9b ?q9c ?_); (case q9G | q9X => assumption); (case q9g | q9a | q9b => exact rfl); (case q9e => k_is); (case q9c => decide)) | ((with_reducible refine' r_gC ?q9G ?q9v ?q9m ?q9o ?q9a ?q9b ?q9c ?_); (case q9G => assumption); (case q9v | q9a | q9b => exact rfl); (case q9m => k_extra "mem"); (case q9o => first | assumption | exact rfl); (case q9c => decide)) | ((with_reducible refine' r_alc ?q9w ?q9c ?q9k ?q9n ?q9s ?_); (case q9w | q9c | q9k => exact rfl); (case q9n => decide); (case q9s => (intro _; exact rfl))) | ((with_reducible refine' Assign_Tuple_swapped ?_ ?q9hs ?q9hw); rotate_left; (case q9hs | q9hw => exact rfl)) | ((with_reducible refine' r_unpackI ?q9a ?q9G ?q9m ?q9n ?_); (case q9a | q9G => assumption); (case q9m => k_extra "mem"); (case q9n => exact rfl); intro _ _) | ((with_reducible show wpAny _ _ (PySem.assignInOrder (List.map _ _) _) _ _ _); refine' r_swap2 ?_) | k_extra "while" | with_reducible refine r_wnext ?_ | with_reducible refine' evalPart_none_step ?_ | with_reducible refine' evalPart_some_step ?_ | with_reducible refine' GM.join ?_ | (with_reducible refine' lt_int ?_) | (with_reducible refine' r_add ?_ <;> intro _ _) | with_reducible refine' r_neStr ?_ | ((with_reducible refine' r_addStr ?q9z ?_); (case q9z => k_extra "size"); intro _ _) | with_reducible refine' r_isSame ?_ | with_reducible refine' r_isnotSame ?_ | with_reducible refine' r_isIR ?_ | with_reducible refine' r_isnotIR ?_)))
        exact hBQ _ _ _ _ ⟨_, _, [], rfl, rfl, by rw [e9]; k_extra "mem"⟩ (by assumption)
      · have e9 : pick len ts = ts.take len.toNat := if_neg hlen
        (repeat' ((first | k_extra "w" | ((with_reducible refine' r_nameC ?q9G ?q9v ?q9m ?q9o ?q9a ?q9b ?q9c ?_); (case q9G => assumption); (case q9v | q9a | q9b => exact rfl); (case q9m => k_extra "mem"); (case q9o => first | assumption | exact rfl); (case q9c => decide)) | with_reducible refine' wpAny_Slice ?_ | ((with_reducible refine' r_gL ?q9G ?q9n ?q9m ?q9v ?q9a ?q9b ?q9c ?_); (case q9G | q9n => assumption); (case q9m => k_extra "mem"); (case q9v => assumption); (case q9a | q9b => exact rfl); (case q9c => decide)) | ((with_reducible refine' r_gK ?q9G ?q9X ?q9e ?q9g ?q9a ?q9b ?q9c ?_); (case q9G | q9X => assumption); (case q9g | q9a | q9b => exact rfl); (case q9e => k_is); (case q9c => decide)) | ((with_reducible refine' r_gC ?q9G ?q9v ?q9m ?q9o ?q9a ?q9b ?q9c ?_); (case q9G => assumption); (case q9v | q9a | q9b => exact rfl); (case q9m => k_extra "mem"); (case q9o => first | assumption | exact rfl); (case q9c => decide)) | ((with_reducible refine' r_alc ?q9w ?q9c ?q9k ?q9n ?q9s ?_); (case q9w | q9c | q9k => exact rfl); (case q9n => decide); (case q9s => (intro _; exact rfl))) | ((with_reducible refine' Assign_Tuple_swapped ?_ ?q9hs ?q9hw); rotate_left; (case q9hs | q9hw => exact rfl)) | ((with_reducible refine' r_unpackI ?q9a ?q9G ?q9m ?q9n ?_); (case q9a | q9G => assumption); (case q9m => k_extra "mem"); (case q9n => exact rfl); intro _ _) | ((with_reducible show wpAny _ _ (PySem.assignInOrder (List.map _ _) _) _ _ _); refine' r_swap2 ?_) | k_extra "while" | with_reducible refine r_wnext ?_ | with_reducible refine' evalPart_none_step ?_ | with_reducible refine' evalPart_some_step ?_ | with_reducible refine' GM.join ?_ | (with_reducible refine' lt_int ?_) | (with_reducible refine' r_add ?_ <;> intro _ _) | with_reducible refine' r_neStr ?_ | ((with_reducible refine' r_addStr ?q9z ?_); (case q9z => k_extra "size"); intro _ _) | with_reducible refine' r_isSame ?_ | with_reducible refine' r_isnotSame ?_ | with_reducible refine' r_isIR ?_ | with_reducible refine' r_isnotIR ?_)))
        refine r_slList (by assumption) (by k_extra "mem") (by k_extra "le") (by with_unfolding_all rfl) (by intro _; with_unfolding_all rfl) (by k_extra "size") fun D9 h9 G => ?_
        exact hBQ _ _ _ _ ⟨_, _, [(D9, _)], rfl, rfl, by rw [e9]; exact .head _⟩ (by assumption)
    rintro v nw h' t' ⟨l2, n2, ex, rfl, rfl, hl2⟩ G
    refine cmp_list (vs := pick len ts) (fun i ys nw => nw = ex ++ ((l,listOf ts.toArray n')::(L+4,o1)::(L+3,o2)::(L+2,o3)::(L+1,o4)::rest) ∧ ∃ pl : List (Str × Tok), ys = strValues pl ∧ pl.map (fun q => codesOf q.1) = ((pick len ds).take i).map (fun d => txt len lev sh n d (dep + 1))) (by decide) rfl rfl (Ar.hd (by assumption)) (by assumption) (by have := pick_le ts len; have := sizeLine_eq; omega) (fun i ys nw hj => by rw [hj.1]; exact hl2) ⟨rfl, [], rfl, rfl⟩ ?_ (endK_some rfl rfl ?_)
    · rintro i v ys nw I oI C oC D m₂ h t hi hv ⟨rfl, pl, rfl, hpl⟩ hn hm G
      obtain ⟨d1, hd1, hv1, hd2⟩ := pick_ex ht hv
      have R1 := it i v d1 hv1 hd2
      (repeat' ((first | k_extra "w" | ((with_reducible refine' r_nameC ?q9G ?q9v ?q9m ?q9o ?q9a ?q9b ?q9c ?_); (case q9G => assumption); (case q9v | q9a | q9b => exact rfl); (case q9m => k_extra "mem"); (case q9o => first | assumption | exact rfl); (case q9c => decide)) | with_reducible refine' wpAny_Slice ?_ | ((with_reducible refine' r_gL ?q9G ?q9n ?q9m ?q9v ?q9a ?q9b ?q9c ?_); (case q9G | q9n => assumption); (case q9m => k_extra "mem"); (case q9v => assumption); (case q9a | q9b => exact rfl); (case q9c => decide)) | ((with_reducible refine' r_gK ?q9G ?q9X ?q9e ?q9g ?q9a ?q9b ?q9c ?_); (case q9G | q9X => assumption); (case q9g | q9a | q9b => exact rfl); (case q9e => k_is); (case q9c => decide)) | ((with_reducible refine' r_gC ?q9G ?q9v ?q9m ?q9o ?q9a ?q9b ?q9c ?_); (case q9G => assumption); (case q9v | q9a | q9b => exact rfl); (case q9m => k_extra "mem"); (case q9o => first | assumption | exact rfl); (case q9c => decide)) | ((with_reducible refine' r_alc ?q9w ?q9c ?q9k ?q9n ?q9s ?_); (case q9w | q9c | q9k => exact rfl); (case q9n => decide); (case q9s => (intro _; exact rfl))) | ((with_reducible refine' Assign_Tuple_swapped ?_ ?q9hs ?q9hw); rotate_left; (case q9hs | q9hw => exact rfl)) | ((with_reducible refine' r_unpackI ?q9a ?q9G ?q9m ?q9n ?_); (case q9a | q9G => assumption); (case q9m => k_extra "mem"); (case q9n => exact rfl); intro _ _) | ((with_reducible show wpAny _ _ (PySem.assignInOrder (List.map _ _) _) _ _ _); refine' r_swap2 ?_) | k_extra "while" | with_reducible refine r_wnext ?_ | with_reducible refine' evalPart_none_step ?_ | with_reducible refine' evalPart_some_step ?_ | with_reducible refine' GM.join ?_ | (with_reducible refine' lt_int ?_) | (with_reducible refine' r_add ?_ <;> intro _ _) | with_reducible refine' r_neStr ?_ | ((with_reducible refine' r_addStr ?q9z ?_); (case q9z => k_extra "size"); intro _ _) | with_reducible refine' r_isSame ?_ | with_reducible refine' r_isnotSame ?_ | with_reducible refine' r_isIR ?_ | with_reducible refine' r_isnotIR ?_)))
      refine cal (by assumption) (M _ d1 b v len lev (dep + 1) lu lt _ sh (R1.mono (by k_extra "sub")) (ok d1 (List.mem_of_getElem? hd2))) ?_ (h1 := by k_extra "le") (h2 := by k_extra "le")
      rintro v' nw h' t' ⟨y, u9, rfl, rfl, hy⟩ G
      exact ⟨_, _, ex ++ ((l,listOf ts.toArray n')::(L+4,o1)::(L+3,o2)::(L+2,o3)::(L+1,o4)::rest), rfl, by assumption, rfl, pl ++ [(y, u9)], by simp [strValues], by rw [take_snoc hd1, List.map_append, List.map_append, hpl]; simp [hy]⟩
    intro D h9 t9 ys nw G hfin
    obtain ⟨rfl, pl, rfl, hpl⟩ := hfin
    rw [pick_len ht, List.take_length] at hpl
    have G : Lg h₀ L h9 _ ((D, listOf (strValues pl).toArray (strValues pl).length) :: (ex ++ ((l,listOf ts.toArray n')::(L+4,o1)::(L+3,o2)::(L+2,o3)::(L+1,o4)::rest))) := G
    have hple : pl.length ≤ 7 := by
      have e := congrArg List.length hpl
      rw [List.length_map, List.length_map] at e
      have := pick_le ds len
      omega
    have hsz : (strValues pl).length ≤ 8 := by rw [strValues, List.length_map]; omega
    have hsl := sizeLine_eq
    (repeat' ((((fail_if_success (with_reducible refine r_stopB ?_)); (fail_if_success (with_reducible refine r_stopE ?_)); (first | k_extra "w" | ((with_reducible refine' r_nameC ?q9G ?q9v ?q9m ?q9o ?q9a ?q9b ?q9c ?_); (case q9G => assumption); (case q9v | q9a | q9b => exact rfl); (case q9m => k_extra "mem"); (case q9o => first | assumption | exact rfl); (case q9c => decide)) | with_reducible refine' wpAny_Slice ?_ | ((with_reducible refine' r_gL ?q9G ?q9n ?q9m ?q9v ?q9a ?q9b ?q9c ?_); (case q9G | q9n => assumption); (case q9m => k_extra "mem"); (case q9v => assumption); (case q9a | q9b => exact rfl); (case q9c => decide)) | ((with_reducible refine' r_gK ?q9G ?q9X ?q9e ?q9g ?q9a ?q9b ?q9c ?_); (case q9G | q9X => assumption); (case q9g | q9a | q9b => exact rfl); (case q9e => k_is); (case q9c => decide)) | ((with_reducible refine' r_gC ?q9G ?q9v ?q9m ?q9o ?q9a ?q9b ?q9c ?_); (case q9G => assumption); (case q9v | q9a | q9b => exact rfl); (case q9m => k_extra "mem"); (case q9o => first | assumption | exact rfl); (case q9c => decide)) | ((with_reducible refine' r_alc ?q9w ?q9c ?q9k ?q9n ?q9s ?_); (case q9w | q9c | q9k => exact rfl); (case q9n => decide); (case q9s => (intro _; exact rfl))) | ((with_reducible refine' Assign_Tuple_swapped ?_ ?q9hs ?q9hw); rotate_left; (case q9hs | q9hw => exact rfl)) | ((with_reducible refine' r_unpackI ?q9a ?q9G ?q9m ?q9n ?_); (case q9a | q9G => assumption); (case q9m => k_extra "mem"); (case q9n => exact rfl); intro _ _) | ((with_reducible show wpAny _ _ (PySem.assignInOrder (List.map _ _) _) _ _ _); refine' r_swap2 ?_) | k_extra "while" | with_reducible refine r_wnext ?_ | with_reducible refine' evalPart_none_step ?_ | with_reducible refine' evalPart_some_step ?_ | with_reducible refine' GM.join ?_ | (with_reducible refine' lt_int ?_) | (with_reducible refine' r_add ?_ <;> intro _ _) | with_reducible refine' r_neStr ?_ | ((with_reducible refine' r_addStr ?q9z ?_); (case q9z => k_extra "size"); intro _ _) | with_reducible refine' r_isSame ?_ | with_reducible refine' r_isnotSame ?_ | with_reducible refine' r_isIR ?_ | with_reducible refine' r_isnotIR ?_)))))
    refine cutV G (fun fl nw => fl = Flow.next ∧ ∃ pl n3, nw = (D, listOf (strValues pl).toArray n3) :: (ex ++ ((l,listOf ts.toArray n')::(L+4,o1)::(L+3,o2)::(L+2,o3)::(L+1,o4)::rest)) ∧ pl.map (fun q => codesOf q.1) = partsOf (fun d => txt len lev sh n d (dep + 1)) len ds dot) ?_ ?_
    · intro BQ hBQ
      by_cases hc : 0 ≤ len ∧ len < ds.length
      · have hc1 := hc.1
        have hc2 : (ts.length : Int) > len := by rw [ht]; exact hc.2
        (repeat' ((first | k_extra "w" | ((with_reducible refine' r_nameC ?q9G ?q9v ?q9m ?q9o ?q9a ?q9b ?q9c ?_); (case q9G => assumption); (case q9v | q9a | q9b => exact rfl); (case q9m => k_extra "mem"); (case q9o => first | assumption | exact rfl); (case q9c => decide)) | with_reducible refine' wpAny_Slice ?_ | ((with_reducible refine' r_gL ?q9G ?q9n ?q9m ?q9v ?q9a ?q9b ?q9c ?_); (case q9G | q9n => assumption); (case q9m => k_extra "mem"); (case q9v => assumption); (case q9a | q9b => exact rfl); (case q9c => decide)) | ((with_reducible refine' r_gK ?q9G ?q9X ?q9e ?q9g ?q9a ?q9b ?q9c ?_); (case q9G | q9X => assumption); (case q9g | q9a | q9b => exact rfl); (case q9e => k_is); (case q9c => decide)) | ((with_reducible refine' r_gC ?q9G ?q9v ?q9m ?q9o ?q9a ?q9b ?q9c ?_); (case q9G => assumption); (case q9v | q9a | q9b => exact rfl); (case q9m => k_extra "mem"); (case q9o => first | assumption | exact rfl); (case q9c => decide)) | ((with_reducible refine' r_alc ?q9w ?q9c ?q9k ?q9n ?q9s ?_); (case q9w | q9c | q9k => exact rfl); (case q9n => decide); (case q9s => (intro _; exact rfl))) | ((with_reducible refine' Assign_Tuple_swapped ?_ ?q9hs ?q9hw); rotate_left; (case q9hs | q9hw => exact rfl)) | ((with_reducible refine' r_unpackI ?q9a ?q9G ?q9m ?q9n ?_); (case q9a | q9G => assumption); (case q9m => k_extra "mem"); (case q9n => exact rfl); intro _ _) | ((with_reducible show wpAny _ _ (PySem.assignInOrder (List.map _ _) _) _ _ _); refine' r_swap2 ?_) | k_extra "while" | with_reducible refine r_wnext ?_ | with_reducible refine' evalPart_none_step ?_ | with_reducible refine' evalPart_some_step ?_ | with_reducible refine' GM.join ?_ | (with_reducible refine' lt_int ?_) | (with_reducible refine' r_add ?_ <;> intro _ _) | with_reducible refine' r_neStr ?_ | ((with_reducible refine' r_addStr ?q9z ?_); (case q9z => k_extra "size"); intro _ _) | with_reducible refine' r_isSame ?_ | with_reducible refine' r_isnotSame ?_ | with_reducible refine' r_isIR ?_ | with_reducible refine' r_isnotIR ?_)))
        exact hBQ _ _ _ _ ⟨rfl, pl ++ [(Str.ofString "...", _)], _, by simp [strValues]; rfl, by rw [partsOf_yes _ _ hc, List.map_append, hpl]; rfl⟩ (by assumption)
      · have hcc : ¬ 0 ≤ len ∨ (0 ≤ len ∧ ¬ (ts.length : Int) > len) := by rw [ht]; omega
        cases dot with
        | false =>
          have e7 : tv = .ref 77 := htl
          subst e7
          rcases hcc with hc1 | ⟨hc1, hc2⟩ <;> ((repeat' ((first | k_extra "w" | ((with_reducible refine' r_nameC ?q9G ?q9v ?q9m ?q9o ?q9a ?q9b ?q9c ?_); (case q9G => assumption); (case q9v | q9a | q9b => exact rfl); (case q9m => k_extra "mem"); (case q9o => first | assumption | exact rfl); (case q9c => decide)) | with_reducible refine' wpAny_Slice ?_ | ((with_reducible refine' r_gL ?q9G ?q9n ?q9m ?q9v ?q9a ?q9b ?q9c ?_); (case q9G | q9n => assumption); (case q9m => k_extra "mem"); (case q9v => assumption); (case q9a | q9b => exact rfl); (case q9c => decide)) | ((with_reducible refine' r_gK ?q9G ?q9X ?q9e ?q9g ?q9a ?q9b ?q9c ?_); (case q9G | q9X => assumption); (case q9g | q9a | q9b => exact rfl); (case q9e => k_is); (case q9c => decide)) | ((with_reducible refine' r_gC ?q9G ?q9v ?q9m ?q9o ?q9a ?q9b ?q9c ?_); (case q9G => assumption); (case q9v | q9a | q9b => exact rfl); (case q9m => k_extra "mem"); (case q9o => first | assumption | exact rfl); (case q9c => decide)) | ((with_reducible refine' r_alc ?q9w ?q9c ?q9k ?q9n ?q9s ?_); (case q9w | q9c | q9k => exact rfl); (case q9n => decide); (case q9s => (intro _; exact rfl))) | ((with_reducible refine' Assign_Tuple_swapped ?_ ?q9hs ?q9hw); rotate_left; (case q9hs | q9hw => exact rfl)) | ((with_reducible refine' r_unpackI ?q9a ?q9G ?q9m ?q9n ?_); (case q9a | q9G => assumption); (case q9m => k_extra "mem"); (case q9n => exact rfl); intro _ _) | ((with_reducible show wpAny _ _ (PySem.assignInOrder (List.map _ _) _) _ _ _); refine' r_swap2 ?_) | k_extra "while" | with_reducible refine r_wnext ?_ | with_reducible refine' evalPart_none_step ?_ | with_reducible refine' evalPart_some_step ?_ | with_reducible refine' GM.join ?_ | (with_reducible refine' lt_int ?_) | (with_reducible refine' r_add ?_ <;> intro _ _) | with_reducible refine' r_neStr ?_ | ((with_reducible refine' r_addStr ?q9z ?_); (case q9z => k_extra "size"); intro _ _) | with_reducible refine' r_isSame ?_ | with_reducible refine' r_isnotSame ?_ | with_reducible refine' r_isIR ?_ | with_reducible refine' r_isnotIR ?_))); exact hBQ _ _ _ _ ⟨rfl, pl, _, rfl, by rw [partsOf_not _ hc]; exact hpl⟩ (by assumption))
        | true =>
          obtain ⟨u7, e7⟩ := (show ∃ u, tv = .int 7 u from htl)
          subst e7
          rcases hcc with hc1 | ⟨hc1, hc2⟩ <;> (
            (repeat' ((first | k_extra "w" | ((with_reducible refine' r_nameC ?q9G ?q9v ?q9m ?q9o ?q9a ?q9b ?q9c ?_); (case q9G => assumption); (case q9v | q9a | q9b => exact rfl); (case q9m => k_extra "mem"); (case q9o => first | assumption | exact rfl); (case q9c => decide)) | with_reducible refine' wpAny_Slice ?_ | ((with_reducible refine' r_gL ?q9G ?q9n ?q9m ?q9v ?q9a ?q9b ?q9c ?_); (case q9G | q9n => assumption); (case q9m => k_extra "mem"); (case q9v => assumption); (case q9a | q9b => exact rfl); (case q9c => decide)) | ((with_reducible refine' r_gK ?q9G ?q9X ?q9e ?q9g ?q9a ?q9b ?q9c ?_); (case q9G | q9X => assumption); (case q9g | q9a | q9b => exact rfl); (case q9e => k_is); (case q9c => decide)) | ((with_reducible refine' r_gC ?q9G ?q9v ?q9m ?q9o ?q9a ?q9b ?q9c ?_); (case q9G => assumption); (case q9v | q9a | q9b => exact rfl); (case q9m => k_extra "mem"); (case q9o => first | assumption | exact rfl); (case q9c => decide)) | ((with_reducible refine' r_alc ?q9w ?q9c ?q9k ?q9n ?q9s ?_); (case q9w | q9c | q9k => exact rfl); (case q9n => decide); (case q9s => (intro _; exact rfl))) | ((with_reducible refine' Assign_Tuple_swapped ?_ ?q9hs ?q9hw); rotate_left; (case q9hs | q9hw => exact rfl)) | ((with_reducible refine' r_unpackI ?q9a ?q9G ?q9m ?q9n ?_); (case q9a | q9G => assumption); (case q9m => k_extra "mem"); (case q9n => exact rfl); intro _ _) | ((with_reducible show wpAny _ _ (PySem.assignInOrder (List.map _ _) _) _ _ _); refine' r_swap2 ?_) | k_extra "while" | with_reducible refine r_wnext ?_ | with_reducible refine' evalPart_none_step ?_ | with_reducible refine' evalPart_some_step ?_ | with_reducible refine' GM.join ?_ | (with_reducible refine' lt_int ?_) | (with_reducible refine' r_add ?_ <;> intro _ _) | with_reducible refine' r_neStr ?_ | ((with_reducible refine' r_addStr ?q9z ?_); (case q9z => k_extra "size"); intro _ _) | with_reducible refine' r_isSame ?_ | with_reducible refine' r_isnotSame ?_ | with_reducible refine' r_isIR ?_ | with_reducible refine' r_isnotIR ?_)))
            refine cal (by assumption) (text_int (i := 7) (by decide)) ?_ (h1 := by k_extra "le") (h2 := by k_extra "le")
            rintro v' nw h' t' ⟨u9, rfl, rfl⟩ G
            (repeat' ((first | k_extra "w" | ((with_reducible refine' r_nameC ?q9G ?q9v ?q9m ?q9o ?q9a ?q9b ?q9c ?_); (case q9G => assumption); (case q9v | q9a | q9b => exact rfl); (case q9m => k_extra "mem"); (case q9o => first | assumption | exact rfl); (case q9c => decide)) | with_reducible refine' wpAny_Slice ?_ | ((with_reducible refine' r_gL ?q9G ?q9n ?q9m ?q9v ?q9a ?q9b ?q9c ?_); (case q9G | q9n => assumption); (case q9m => k_extra "mem"); (case q9v => assumption); (case q9a | q9b => exact rfl); (case q9c => decide)) | ((with_reducible refine' r_gK ?q9G ?q9X ?q9e ?q9g ?q9a ?q9b ?q9c ?_); (case q9G | q9X => assumption); (case q9g | q9a | q9b => exact rfl); (case q9e => k_is); (case q9c => decide)) | ((with_reducible refine' r_gC ?q9G ?q9v ?q9m ?q9o ?q9a ?q9b ?q9c ?_); (case q9G => assumption); (case q9v | q9a | q9b => exact rfl); (case q9m => k_extra "mem"); (case q9o => first | assumption | exact rfl); (case q9c => decide)) | ((with_reducible refine' r_alc ?q9w ?q9c ?q9k ?q9n ?q9s ?_); (case q9w | q9c | q9k => exact rfl); (case q9n => decide); (case q9s => (intro _; exact rfl))) | ((with_reducible refine' Assign_Tuple_swapped ?_ ?q9hs ?q9hw); rotate_left; (case q9hs | q9hw => exact rfl)) | ((with_reducible refine' r_unpackI ?q9a ?q9G ?q9m ?q9n ?_); (case q9a | q9G => assumption); (case q9m => k_extra "mem"); (case q9n => exact rfl); intro _ _) | ((with_reducible show wpAny _ _ (PySem.assignInOrder (List.map _ _) _) _ _ _); refine' r_swap2 ?_) | k_extra "while" | with_reducible refine r_wnext ?_ | with_reducible refine' evalPart_none_step ?_ | with_reducible refine' evalPart_some_step ?_ | with_reducible refine' GM.join ?_ | (with_reducible refine' lt_int ?_) | (with_reducible refine' r_add ?_ <;> intro _ _) | with_reducible refine' r_neStr ?_ | ((with_reducible refine' r_addStr ?q9z ?_); (case q9z => k_extra "size"); intro _ _) | with_reducible refine' r_isSame ?_ | with_reducible refine' r_isnotSame ?_ | with_reducible refine' r_isIR ?_ | with_reducible refine' r_isnotIR ?_)))
            exact hBQ _ _ _ _ ⟨rfl, pl ++ [(Str.ofString ".", _), (Str.ofString (toString (7 : Int)), _)], _, sv_snoc2, by rw [partsOf_dot _ hc, List.map_append, hpl]; rfl⟩ (Lg.sel (by assumption) (by k_extra "sel")))
    rintro fl nw h' t' ⟨rfl, pl, n3, rfl, hpl⟩ G
    have hB := tbd_ge n
    obtain ⟨hj1, hj2⟩ := parts_ok hpl (B := tbd n) (by k_extra "le") (fun d hd => txt_len len lev sh n d (dep + 1) (ok d hd)) h7 (by unfold tbd at hT; omega)
    have hz1 : (Str.ofString "(").length + (Txt.join (Str.ofString " ") (pl.map (·.1))).length ≤ sizeLine := by
      have : (Str.ofString "(").length = 1 := by decide +kernel
      omega
    have hz2 : (Str.ofString "(" ++ Txt.join (Str.ofString " ") (pl.map (·.1))).length + (Str.ofString ")").length ≤ sizeLine := by
      have e1 : (Str.ofString "(").length = 1 := by decide +kernel
      have e2 : (Str.ofString ")").length = 1 := by decide +kernel
      rw [Str.length_append]; omega
    (repeat' ((first | k_extra "w" | ((with_reducible refine' r_nameC ?q9G ?q9v ?q9m ?q9o ?q9a ?q9b ?q9c ?_); (case q9G => assumption); (case q9v | q9a | q9b => exact rfl); (case q9m => k_extra "mem"); (case q9o => first | assumption | exact rfl); (case q9c => decide)) | with_reducible refine' wpAny_Slice ?_ | ((with_reducible refine' r_gL ?q9G ?q9n ?q9m ?q9v ?q9a ?q9b ?q9c ?_); (case q9G | q9n => assumption); (case q9m => k_extra "mem"); (case q9v => assumption); (case q9a | q9b => exact rfl); (case q9c => decide)) | ((with_reducible refine' r_gK ?q9G ?q9X ?q9e ?q9g ?q9a ?q9b ?q9c ?_); (case q9G | q9X => assumption); (case q9g | q9a | q9b => exact rfl); (case q9e => k_is); (case q9c => decide)) | ((with_reducible refine' r_gC ?q9G ?q9v ?q9m ?q9o ?q9a ?q9b ?q9c ?_); (case q9G => assumption); (case q9v | q9a | q9b => exact rfl); (case q9m => k_extra "mem"); (case q9o => first | assumption | exact rfl); (case q9c => decide)) | ((with_reducible refine' r_alc ?q9w ?q9c ?q9k ?q9n ?q9s ?_); (case q9w | q9c | q9k => exact rfl); (case q9n => decide); (case q9s => (intro _; exact rfl))) | ((with_reducible refine' Assign_Tuple_swapped ?_ ?q9hs ?q9hw); rotate_left; (case q9hs | q9hw => exact rfl)) | ((with_reducible refine' r_unpackI ?q9a ?q9G ?q9m ?q9n ?_); (case q9a | q9G => assumption); (case q9m => k_extra "mem"); (case q9n => exact rfl); intro _ _) | ((with_reducible show wpAny _ _ (PySem.assignInOrder (List.map _ _) _) _ _ _); refine' r_swap2 ?_) | k_extra "while" | with_reducible refine r_wnext ?_ | with_reducible refine' evalPart_none_step ?_ | with_reducible refine' evalPart_some_step ?_ | with_reducible refine' GM.join ?_ | (with_reducible refine' lt_int ?_) | (with_reducible refine' r_add ?_ <;> intro _ _) | with_reducible refine' r_neStr ?_ | ((with_reducible refine' r_addStr ?q9z ?_); (case q9z => k_extra "size"); intro _ _) | with_reducible refine' r_isSame ?_ | with_reducible refine' r_isnotSame ?_ | with_reducible refine' r_isIR ?_ | with_reducible refine' r_isnotIR ?_)))
    refine r_join (by assumption) (by k_extra "mem") rfl hj1 fun u9 t9 => ?_
    (repeat' ((first | k_extra "w" | ((with_reducible refine' r_nameC ?q9G ?q9v ?q9m ?q9o ?q9a ?q9b ?q9c ?_); (case q9G => assumption); (case q9v | q9a | q9b => exact rfl); (case q9m => k_extra "mem"); (case q9o => first | assumption | exact rfl); (case q9c => decide)) | with_reducible refine' wpAny_Slice ?_ | ((with_reducible refine' r_gL ?q9G ?q9n ?q9m ?q9v ?q9a ?q9b ?q9c ?_); (case q9G | q9n => assumption); (case q9m => k_extra "mem"); (case q9v => assumption); (case q9a | q9b => exact rfl); (case q9c => decide)) | ((with_reducible refine' r_gK ?q9G ?q9X ?q9e ?q9g ?q9a ?q9b ?q9c ?_); (case q9G | q9X => assumption); (case q9g | q9a | q9b => exact rfl); (case q9e => k_is); (case q9c => decide)) | ((with_reducible refine' r_gC ?q9G ?q9v ?q9m ?q9o ?q9a ?q9b ?q9c ?_); (case q9G => assumption); (case q9v | q9a | q9b => exact rfl); (case q9m => k_extra "mem"); (case q9o => first | assumption | exact rfl); (case q9c => decide)) | ((with_reducible refine' r_alc ?q9w ?q9c ?q9k ?q9n ?q9s ?_); (case q9w | q9c | q9k => exact rfl); (case q9n => decide); (case q9s => (intro _; exact rfl))) | ((with_reducible refine' Assign_Tuple_swapped ?_ ?q9hs ?q9hw); rotate_left; (case q9hs | q9hw => exact rfl)) | ((with_reducible refine' r_unpackI ?q9a ?q9G ?q9m ?q9n ?_); (case q9a | q9G => assumption); (case q9m => k_extra "mem"); (case q9n => exact rfl); intro _ _) | ((with_reducible show wpAny _ _ (PySem.assignInOrder (List.map _ _) _) _ _ _); refine' r_swap2 ?_) | k_extra "while" | with_reducible refine r_wnext ?_ | with_reducible refine' evalPart_none_step ?_ | with_reducible refine' evalPart_some_step ?_ | with_reducible refine' GM.join ?_ | (with_reducible refine' lt_int ?_) | (with_reducible refine' r_add ?_ <;> intro _ _) | with_reducible refine' r_neStr ?_ | ((with_reducible refine' r_addStr ?q9z ?_); (case q9z => k_extra "size"); intro _ _) | with_reducible refine' r_isSame ?_ | with_reducible refine' r_isnotSame ?_ | with_reducible refine' r_isIR ?_ | with_reducible refine' r_isnotIR ?_)))
    exact hQ _ _ <| r_backP (by assumption) ⟨_, _, rfl, rfl, by rw [codesOf_app, codesOf_app, join_codes, List.map_map]; rw [show List.map (codesOf ∘ fun x => x.1) pl = List.map (fun q => codesOf q.1) pl from rfl, hpl]; rfl⟩ (by k_extra "sel")
end
section
variable {w : World} {p : Program} {loose : List Str} {mean : ExcName → Option Value} {mg mb : Str → Option Value} {rest : List (Addr × Obj)}
theorem Sp.le {prog : Program} {w : World} {K : Frag} {p : Program} {loose : List Str} {mean : ExcName → Option Value} {mg mb : Str → Option Value} {news : List (Addr × Obj)} {f : Value} {vs : List Value} {dn un dn' un' : Nat} {post : Value → List (Addr × Obj) → Prop} (S : Sp prog w K p loose mean mg mb f vs dn un news post) (h1 : dn ≤ dn') (h2 : un ≤ un') : Sp prog w K p loose mean mg mb f vs dn' un' news post :=
  fun _ _ _ _ _ _ _ _ _ _ _ _ _ _ _ a hf hk X G q => S _ _ _ _ _ _ _ _ _ _ _ _ _ _ _ (a.le h1 h2) hf hk X G q
theorem text_step {n dn un : Nat} (hdn : 41 ≤ dn) (hun : 203 ≤ un) (hT : tbd (n + 1) ≤ 100000) (M : TextAt w p loose mean mg mb n dn un) : TextAt w p loose mean mg mb (n + 1) (dn + 1) (un + 3) := by
  intro rest d b v len lev dep lu lt du sh R ok
  cases d with
  | «at» a => exact (text_atom (a := a) R).le (by k_extra "le") (by k_extra "le")
  | lst ds dot =>
    obtain ⟨x, xs, vs, tv, rfl, hxb, pw, hl, hvl, htl, hcell, hit⟩ := R
    exact text_lst hdn hun hT M (b := x) (xs := xs) ⟨pw, by rw [hvl, hl], htl, fun i y hy => hcell i y hy⟩ hvl ok.1 ok.2 hit
  | vec ds =>
    obtain ⟨x, l, dx, vs, k, t, i, j, rfl, hxb, h1, h2, h3, h4, hit⟩ := R
    exact text_vec (by k_extra "le") (by k_extra "le") hT M (b := x) (.news h1 h2) h3 h4 ok.1 ok.2 hit
theorem text_four : TextAt w p loose mean mg mb 4 45 215 := text_step (by decide) (by decide) (by decide) (text_step (by decide) (by decide) (by decide) (text_step (by decide) (by decide) (by decide) (text_step (by decide) (by decide) (by decide) text_zero)))
end
section
variable {w : World} {p : Program} {loose : List Str} {mean : ExcName → Option Value} {mg mb : Str → Option Value} {rest : List (Addr × Obj)}
section
variable {M : Model} {A : Around} {E : Value → Shared → Prop} {env : Env}
theorem r_swap3 {a b c : Str} {v1 v2 v3 : Value} {Q : Unit → Shared → Prop} {s : Shared} (k : wpAny M A (storeName env c v3) (fun _ s1 => wpAny M A (storeName env b v2) (fun _ s2 => wpAny M A (storeName env a v1) Q E s2) E s1) E s) : wpAny M A (assignInOrder ([a, b, c].reverse.map fun n => bindName env n) [v1, v2, v3].reverse) Q E s := by
  show wpAny M A (assignInOrder [bindName env c, bindName env b, bindName env a] [v3, v2, v1]) Q E s
  exact assignInOrder_cons (wpAny_bindName (wpAny_mono k (fun _ s1 k => assignInOrder_cons (wpAny_bindName (wpAny_mono k (fun _ s2 k => assignInOrder_cons (wpAny_bindName (wpAny_mono k (fun _ s3 k => assignInOrder_nil k) fun _ _ e => e))) fun _ _ e => e))) fun _ _ e => e))
end

noncomputable def ringD (m j : Nat) : List Int := [((48 + j % m : Nat) : Int)]
noncomputable def ringT (m : Nat) : List Int := 40 :: joinSp ((List.range (2 * m - 1)).map (ringD m)) ++ [32, 46, 32, 35, ((47 + m : Nat) : Int), 41]
theorem dig_codes {k : Int} (h0 : 0 ≤ k) (h5 : k < 5) : codesOf (Str.ofString (toString k)) = [48 + k] := by
  have hk : k = 0 ∨ k = 1 ∨ k = 2 ∨ k = 3 ∨ k = 4 := by omega
  rcases hk with rfl | rfl | rfl | rfl | rfl <;> decide +kernel
theorem sv_snoc1 {pl : List (Str × Tok)} {D : Addr} {a : Str} {ua : Tok} {k : Nat} {r : List (Addr × Obj)} : ((D, listOf (strValues pl ++ [Value.str a ua]).toArray k) :: r) = (D, listOf (strValues (pl ++ [(a, ua)])).toArray k) :: r := by unfold strValues; rw [List.map_append]; rfl
theorem join_ok_of {pl : List (Str × Tok)} {B : Nat} {ps : List (List Int)} (h : pl.map (fun q => codesOf q.1) = ps) (hf : ∀ x ∈ ps, x.length ≤ B) (hT : pl.length * (B + 1) ≤ 900000) :
    JoinOk (Str.ofString " ") (pl.map (·.1)) = true ∧ (Txt.join (Str.ofString " ") (pl.map (·.1))).length ≤ 900000 ∧ codesOf (Txt.join (Str.ofString " ") (pl.map (·.1))) = joinSp ps := by
  have e : (pl.map (·.1)).map codesOf = ps := by rw [List.map_map, ← h]; rfl
  have hj := join_len B ps hf
  have hl : ps.length = pl.length := by rw [← h, List.length_map]
  refine ⟨joinOk_of ?_, ?_, by rw [join_codes, e]⟩
  · have h2 : ∀ x ∈ pl.map (·.1), x.length ≤ B := fun x hx => by
      obtain ⟨q, hq, rfl⟩ := List.mem_map.mp hx
      rw [← codesOf_len]
      exact hf _ (by rw [← h]; exact List.mem_map.mpr ⟨q, hq, rfl⟩)
    have h3 := sum_le h2
    rw [List.length_map] at h3 ⊢
    have h4 : pl.length * (B + 1) = pl.length * B + pl.length := Nat.mul_succ _ _
    omega
  · rw [← codesOf_len, join_codes, e]
    rw [hl] at hj
    omega
theorem md_dec : ∀ m, m < 6 → ∀ i, i < 2 * m - 1 → 0 < i → i % m ≠ i / 2 % m := by decide
theorem md_last : ∀ m, m < 6 → 0 < m → (2 * m - 1) % m = (2 * m - 1) / 2 % m ∧ (2 * m - 1) / 2 = m - 1 ∧ 2 * m - 1 ≤ 9 ∧ 48 + (m - 1) = 47 + m ∧ m - 1 < 5 ∧ 0 < 2 * m - 1 := by decide
theorem ring_sizes {j x : Str} (hj : j.length ≤ 900000) (hx : x.length = 1) : (Str.ofString "(").length + j.length ≤ sizeLine ∧ (Str.ofString "(" ++ j).length + (Str.ofString " . #").length ≤ sizeLine ∧ (Str.ofString "(" ++ j ++ Str.ofString " . #").length + x.length ≤ sizeLine ∧
    (Str.ofString "(" ++ j ++ Str.ofString " . #" ++ x).length + (Str.ofString ")").length ≤ sizeLine := by
  have e1 : (Str.ofString "(").length = 1 := by decide +kernel
  have e2 : (Str.ofString " . #").length = 4 := by decide +kernel
  have e3 : (Str.ofString ")").length = 1 := by decide +kernel
  have hsl := sizeLine_eq
  rw [Str.length_append, Str.length_append, Str.length_append, Str.length_append, Str.length_append, Str.length_append, e1, e2, e3, hx]
  omega
theorem sp_ring {m : Nat} {u : Tok} (h1 : 1 ≤ m) (h5 : m ≤ 5) : SP w p loose mean mg mb (.ref 546) [.int (m : Int) u] 20 60 rest (fun r nw => ∃ y u, r = .str y u ∧ nw = rest ∧ codesOf y = ringT m) := by
  have hm6 : m < 6 := Nat.lt_succ_of_le h5
  obtain ⟨ml1, ml2, ml3, ml4, ml5, ml6⟩ := md_last m hm6 h1
  ((unfold SP; k_fill; refine' Sp.def ?ho ?hcd ?hb ?hl ?h1 ?h2 ?h3 ?h4 ?_; (case ho | hcd => k_is); (case hb => first | exact fun _ _ => BindsTo.of_eq (binds := [(_, _)]) rfl | exact fun _ _ => BindsTo.of_eq (binds := [(_, _), (_, _)]) rfl | exact fun _ _ => BindsTo.of_eq (binds := [(_, _), (_, _), (_, _)]) rfl | exact fun _ _ => BindsTo.of_eq (binds := [(_, _), (_, _), (_, _), (_, _)]) rfl | exact fun _ _ => BindsTo.of_eq rfl); (case hl => exact locs rfl); (case h1 | h2 | h3 => exact rfl); (case h4 => decide); intro _ _ _ _ _ _ _ _ _ _ _ _ _ _; ((refine wpAny_hide ?_; intro _ hQ))))
  (repeat' ((first | k_extra "w" | ((with_reducible refine' Assign_Tuple_swapped ?_ ?q9hs ?q9hw); rotate_left; (case q9hs | q9hw => exact rfl)) | ((with_reducible refine' r_unpackI ?q9a ?q9G ?q9m ?q9n ?_); (case q9a | q9G => assumption); (case q9m => k_extra "mem"); (case q9n => exact rfl); intro _ _) | k_extra "while" | with_reducible refine isTrue_or_nil ?_ | with_reducible refine r_wnext ?_ | with_reducible refine' GM.join ?_ | (with_reducible refine' ne_int ?_) | (with_reducible refine' r_add ?_ <;> intro _ _) | ((with_reducible refine' r_mod ?q9b ?_); (case q9b => decide); intro _ _) | ((with_reducible refine' r_fdiv ?q9b ?q9s ?_); (case q9b | q9s => decide); intro _ _) | ((with_reducible refine' r_addStr ?q9z ?_); (case q9z => k_extra "size"); intro _ _))))
  refine r_swap3 ?_
  (repeat' ((first | k_extra "w" | ((with_reducible refine' Assign_Tuple_swapped ?_ ?q9hs ?q9hw); rotate_left; (case q9hs | q9hw => exact rfl)) | ((with_reducible refine' r_unpackI ?q9a ?q9G ?q9m ?q9n ?_); (case q9a | q9G => assumption); (case q9m => k_extra "mem"); (case q9n => exact rfl); intro _ _) | k_extra "while" | with_reducible refine isTrue_or_nil ?_ | with_reducible refine r_wnext ?_ | with_reducible refine' GM.join ?_ | (with_reducible refine' ne_int ?_) | (with_reducible refine' r_add ?_ <;> intro _ _) | ((with_reducible refine' r_mod ?q9b ?_); (case q9b => decide); intro _ _) | ((with_reducible refine' r_fdiv ?q9b ?q9s ?_); (case q9b | q9s => decide); intro _ _) | ((with_reducible refine' r_addStr ?q9z ?_); (case q9z => k_extra "size"); intro _ _))))
  rename_i l _ _ _ _ _ _ _ _ _ _ _ _ _ _ _ _ _ _ _ _
  refine wh_inv (fun i m' nw => ∃ n' pl pi ua hi ub, nw = (l, listOf (strValues pl).toArray n') :: rest ∧ pl.map (fun q => codesOf q.1) = (List.range i).map (ringD m) ∧ m' (Str.ofString "found") = some (.ref l) ∧ m' (Str.ofString "many") = some (.int (m : Int) u) ∧ m' (Str.ofString "place") = some (.int pi ua) ∧ m' (Str.ofString "half") = some (.int hi ub) ∧ pi = (i : Int) ∧ hi = (i : Int) / 2) (N := 2 * m - 1) ?step ?last _ 0 _ ((l, listOf #[] 0) :: rest) _ _ (Nat.zero_add _) ⟨0, [], _, _, _, _, rfl, rfl, rfl, rfl, rfl, rfl, rfl, rfl⟩ (Lg.sel (by assumption) (by k_extra "sel"))
  case step =>
    rintro i m' nw h t hi ⟨n', pl, pi, ua, hi', ub, rfl, hpl, m1, m2, m3, m4, e1, e2⟩ G go
    have hm0 : (0 : Int) < (m : Int) := Int.ofNat_lt.mpr h1
    have hne : 0 < i → ¬ (pi % (m : Int) = hi' % (m : Int)) := fun h0 q => md_dec m hm6 i hi h0 (Int.ofNat.inj (by rw [e1, e2] at q; exact q))
    have hq0 : pi % (m : Int) = ((i % m : Nat) : Int) := by rw [e1]; rfl
    have hmlt : i % m < 5 := Nat.lt_of_lt_of_le (Nat.mod_lt i h1) h5
    have hd1 : 0 ≤ pi % (m : Int) := by rw [hq0]; exact Int.natCast_nonneg _
    have hd2 : pi % (m : Int) < 5 := by rw [hq0]; exact Int.ofNat_lt.mpr hmlt
    have hd3 : [48 + pi % (m : Int)] = ringD m i := by rw [hq0]; rfl
    have hlog : (pi % (m : Int)).natAbs.log2 < 1920 := by rw [hq0]; exact Nat.lt_of_le_of_lt (Nat.log2_le_self _) (Nat.lt_trans hmlt (by decide))
    have hpl2 := congrArg List.length hpl
    rw [List.length_map, List.length_map, List.length_range] at hpl2
    have hsz : (strValues pl).length ≤ sizeLine := by rw [strValues, List.length_map, hpl2]; exact Nat.le_trans (Nat.le_of_lt hi) (Nat.le_trans ml3 (by rw [sizeLine_eq]; decide))
    refine r_wturn ?_
    refine cutV G (fun b nw => b = true ∧ nw = (l, listOf (strValues pl).toArray n') :: rest) ?_ ?_
    · intro BQ hBQ
      rcases Nat.eq_zero_or_pos i with h0 | h0
      · have hp0 : pi = 0 := by rw [e1, h0]; rfl
        (repeat' ((first | k_extra "w" | ((with_reducible refine' Assign_Tuple_swapped ?_ ?q9hs ?q9hw); rotate_left; (case q9hs | q9hw => exact rfl)) | ((with_reducible refine' r_unpackI ?q9a ?q9G ?q9m ?q9n ?_); (case q9a | q9G => assumption); (case q9m => k_extra "mem"); (case q9n => exact rfl); intro _ _) | k_extra "while" | with_reducible refine isTrue_or_nil ?_ | with_reducible refine r_wnext ?_ | with_reducible refine' GM.join ?_ | (with_reducible refine' ne_int ?_) | (with_reducible refine' r_add ?_ <;> intro _ _) | ((with_reducible refine' r_mod ?q9b ?_); (case q9b => decide); intro _ _) | ((with_reducible refine' r_fdiv ?q9b ?q9s ?_); (case q9b | q9s => decide); intro _ _) | ((with_reducible refine' r_addStr ?q9z ?_); (case q9z => k_extra "size"); intro _ _))))
        exact hBQ _ _ _ _ ⟨rfl, rfl⟩ (by assumption)
      · have hp0 : ¬ pi = 0 := by rw [e1]; exact fun z => Nat.ne_of_gt h0 (Int.ofNat.inj z)
        have hne := hne h0
        (repeat' ((first | k_extra "w" | ((with_reducible refine' Assign_Tuple_swapped ?_ ?q9hs ?q9hw); rotate_left; (case q9hs | q9hw => exact rfl)) | ((with_reducible refine' r_unpackI ?q9a ?q9G ?q9m ?q9n ?_); (case q9a | q9G => assumption); (case q9m => k_extra "mem"); (case q9n => exact rfl); intro _ _) | k_extra "while" | with_reducible refine isTrue_or_nil ?_ | with_reducible refine r_wnext ?_ | with_reducible refine' GM.join ?_ | (with_reducible refine' ne_int ?_) | (with_reducible refine' r_add ?_ <;> intro _ _) | ((with_reducible refine' r_mod ?q9b ?_); (case q9b => decide); intro _ _) | ((with_reducible refine' r_fdiv ?q9b ?q9s ?_); (case q9b | q9s => decide); intro _ _) | ((with_reducible refine' r_addStr ?q9z ?_); (case q9z => k_extra "size"); intro _ _))))
        refine r_mod hm0 fun u5 t5 => ?_
        (repeat' ((first | k_extra "w" | ((with_reducible refine' Assign_Tuple_swapped ?_ ?q9hs ?q9hw); rotate_left; (case q9hs | q9hw => exact rfl)) | ((with_reducible refine' r_unpackI ?q9a ?q9G ?q9m ?q9n ?_); (case q9a | q9G => assumption); (case q9m => k_extra "mem"); (case q9n => exact rfl); intro _ _) | k_extra "while" | with_reducible refine isTrue_or_nil ?_ | with_reducible refine r_wnext ?_ | with_reducible refine' GM.join ?_ | (with_reducible refine' ne_int ?_) | (with_reducible refine' r_add ?_ <;> intro _ _) | ((with_reducible refine' r_mod ?q9b ?_); (case q9b => decide); intro _ _) | ((with_reducible refine' r_fdiv ?q9b ?q9s ?_); (case q9b | q9s => decide); intro _ _) | ((with_reducible refine' r_addStr ?q9z ?_); (case q9z => k_extra "size"); intro _ _))))
        refine r_mod hm0 fun u6 t6 => ?_
        (repeat' ((first | k_extra "w" | ((with_reducible refine' Assign_Tuple_swapped ?_ ?q9hs ?q9hw); rotate_left; (case q9hs | q9hw => exact rfl)) | ((with_reducible refine' r_unpackI ?q9a ?q9G ?q9m ?q9n ?_); (case q9a | q9G => assumption); (case q9m => k_extra "mem"); (case q9n => exact rfl); intro _ _) | k_extra "while" | with_reducible refine isTrue_or_nil ?_ | with_reducible refine r_wnext ?_ | with_reducible refine' GM.join ?_ | (with_reducible refine' ne_int ?_) | (with_reducible refine' r_add ?_ <;> intro _ _) | ((with_reducible refine' r_mod ?q9b ?_); (case q9b => decide); intro _ _) | ((with_reducible refine' r_fdiv ?q9b ?q9s ?_); (case q9b | q9s => decide); intro _ _) | ((with_reducible refine' r_addStr ?q9z ?_); (case q9z => k_extra "size"); intro _ _))))
        refine r_q_t (by simpa using hne) ?_
        exact hBQ _ _ _ _ ⟨rfl, rfl⟩ (by assumption)
    rintro b nw h' t' ⟨rfl, rfl⟩ G
    (repeat' ((first | k_extra "w" | ((with_reducible refine' Assign_Tuple_swapped ?_ ?q9hs ?q9hw); rotate_left; (case q9hs | q9hw => exact rfl)) | ((with_reducible refine' r_unpackI ?q9a ?q9G ?q9m ?q9n ?_); (case q9a | q9G => assumption); (case q9m => k_extra "mem"); (case q9n => exact rfl); intro _ _) | k_extra "while" | with_reducible refine isTrue_or_nil ?_ | with_reducible refine r_wnext ?_ | with_reducible refine' GM.join ?_ | (with_reducible refine' ne_int ?_) | (with_reducible refine' r_add ?_ <;> intro _ _) | ((with_reducible refine' r_mod ?q9b ?_); (case q9b => decide); intro _ _) | ((with_reducible refine' r_fdiv ?q9b ?q9s ?_); (case q9b | q9s => decide); intro _ _) | ((with_reducible refine' r_addStr ?q9z ?_); (case q9z => k_extra "size"); intro _ _))))
    refine r_mod hm0 fun u5 t5 => ?_
    (repeat' ((first | k_extra "w" | ((with_reducible refine' Assign_Tuple_swapped ?_ ?q9hs ?q9hw); rotate_left; (case q9hs | q9hw => exact rfl)) | ((with_reducible refine' r_unpackI ?q9a ?q9G ?q9m ?q9n ?_); (case q9a | q9G => assumption); (case q9m => k_extra "mem"); (case q9n => exact rfl); intro _ _) | k_extra "while" | with_reducible refine isTrue_or_nil ?_ | with_reducible refine r_wnext ?_ | with_reducible refine' GM.join ?_ | (with_reducible refine' ne_int ?_) | (with_reducible refine' r_add ?_ <;> intro _ _) | ((with_reducible refine' r_mod ?q9b ?_); (case q9b => decide); intro _ _) | ((with_reducible refine' r_fdiv ?q9b ?q9s ?_); (case q9b | q9s => decide); intro _ _) | ((with_reducible refine' r_addStr ?q9z ?_); (case q9z => k_extra "size"); intro _ _))))
    refine r_strInt hlog fun u6 t6 => ?_
    by_cases hpar : pi % 2 = 1
    · (repeat' ((first | k_extra "w" | ((with_reducible refine' Assign_Tuple_swapped ?_ ?q9hs ?q9hw); rotate_left; (case q9hs | q9hw => exact rfl)) | ((with_reducible refine' r_unpackI ?q9a ?q9G ?q9m ?q9n ?_); (case q9a | q9G => assumption); (case q9m => k_extra "mem"); (case q9n => exact rfl); intro _ _) | k_extra "while" | with_reducible refine isTrue_or_nil ?_ | with_reducible refine r_wnext ?_ | with_reducible refine' GM.join ?_ | (with_reducible refine' ne_int ?_) | (with_reducible refine' r_add ?_ <;> intro _ _) | ((with_reducible refine' r_mod ?q9b ?_); (case q9b => decide); intro _ _) | ((with_reducible refine' r_fdiv ?q9b ?q9s ?_); (case q9b | q9s => decide); intro _ _) | ((with_reducible refine' r_addStr ?q9z ?_); (case q9z => k_extra "size"); intro _ _))))
      refine' go _ _ _ _ ?hj ?hG
      case hG => assumption
      case hj => exact ⟨_, pl ++ [(Str.ofString (toString (pi % (m : Int))), u6)], _, _, _, _, sv_snoc1, by rw [List.map_append, hpl, List.range_succ, List.map_append]; simp only [List.map_cons, List.map_nil]; rw [dig_codes hd1 hd2, hd3], m1, m2, rfl, rfl, by omega, by omega⟩
    · (repeat' ((first | k_extra "w" | ((with_reducible refine' Assign_Tuple_swapped ?_ ?q9hs ?q9hw); rotate_left; (case q9hs | q9hw => exact rfl)) | ((with_reducible refine' r_unpackI ?q9a ?q9G ?q9m ?q9n ?_); (case q9a | q9G => assumption); (case q9m => k_extra "mem"); (case q9n => exact rfl); intro _ _) | k_extra "while" | with_reducible refine isTrue_or_nil ?_ | with_reducible refine r_wnext ?_ | with_reducible refine' GM.join ?_ | (with_reducible refine' ne_int ?_) | (with_reducible refine' r_add ?_ <;> intro _ _) | ((with_reducible refine' r_mod ?q9b ?_); (case q9b => decide); intro _ _) | ((with_reducible refine' r_fdiv ?q9b ?q9s ?_); (case q9b | q9s => decide); intro _ _) | ((with_reducible refine' r_addStr ?q9z ?_); (case q9z => k_extra "size"); intro _ _))))
      refine' go _ _ _ _ ?hj ?hG
      case hG => assumption
      case hj => exact ⟨_, pl ++ [(Str.ofString (toString (pi % (m : Int))), u6)], _, _, _, _, sv_snoc1, by rw [List.map_append, hpl, List.range_succ, List.map_append]; simp only [List.map_cons, List.map_nil]; rw [dig_codes hd1 hd2, hd3], m1, m2, rfl, m4, by omega, by omega⟩
  case last =>
    rintro m' nw h t ⟨n', pl, pi, ua, hi', ub, rfl, hpl, m1, m2, m3, m4, e1, e2⟩ G
    have hm0 : (0 : Int) < (m : Int) := Int.ofNat_lt.mpr h1
    have hp0 : ¬ pi = 0 := by rw [e1]; exact fun z => Nat.ne_of_gt ml6 (Int.ofNat.inj z)
    have heq : pi % (m : Int) = hi' % (m : Int) := by rw [e1, e2]; exact congrArg Int.ofNat ml1
    refine r_wturn ?_
    (repeat' ((first | k_extra "w" | ((with_reducible refine' Assign_Tuple_swapped ?_ ?q9hs ?q9hw); rotate_left; (case q9hs | q9hw => exact rfl)) | ((with_reducible refine' r_unpackI ?q9a ?q9G ?q9m ?q9n ?_); (case q9a | q9G => assumption); (case q9m => k_extra "mem"); (case q9n => exact rfl); intro _ _) | k_extra "while" | with_reducible refine isTrue_or_nil ?_ | with_reducible refine r_wnext ?_ | with_reducible refine' GM.join ?_ | (with_reducible refine' ne_int ?_) | (with_reducible refine' r_add ?_ <;> intro _ _) | ((with_reducible refine' r_mod ?q9b ?_); (case q9b => decide); intro _ _) | ((with_reducible refine' r_fdiv ?q9b ?q9s ?_); (case q9b | q9s => decide); intro _ _) | ((with_reducible refine' r_addStr ?q9z ?_); (case q9z => k_extra "size"); intro _ _))))
    refine r_mod hm0 fun u5 t5 => ?_
    (repeat' ((first | k_extra "w" | ((with_reducible refine' Assign_Tuple_swapped ?_ ?q9hs ?q9hw); rotate_left; (case q9hs | q9hw => exact rfl)) | ((with_reducible refine' r_unpackI ?q9a ?q9G ?q9m ?q9n ?_); (case q9a | q9G => assumption); (case q9m => k_extra "mem"); (case q9n => exact rfl); intro _ _) | k_extra "while" | with_reducible refine isTrue_or_nil ?_ | with_reducible refine r_wnext ?_ | with_reducible refine' GM.join ?_ | (with_reducible refine' ne_int ?_) | (with_reducible refine' r_add ?_ <;> intro _ _) | ((with_reducible refine' r_mod ?q9b ?_); (case q9b => decide); intro _ _) | ((with_reducible refine' r_fdiv ?q9b ?q9s ?_); (case q9b | q9s => decide); intro _ _) | ((with_reducible refine' r_addStr ?q9z ?_); (case q9z => k_extra "size"); intro _ _))))
    refine r_mod hm0 fun u6 t6 => ?_
    (repeat' ((first | k_extra "w" | ((with_reducible refine' Assign_Tuple_swapped ?_ ?q9hs ?q9hw); rotate_left; (case q9hs | q9hw => exact rfl)) | ((with_reducible refine' r_unpackI ?q9a ?q9G ?q9m ?q9n ?_); (case q9a | q9G => assumption); (case q9m => k_extra "mem"); (case q9n => exact rfl); intro _ _) | k_extra "while" | with_reducible refine isTrue_or_nil ?_ | with_reducible refine r_wnext ?_ | with_reducible refine' GM.join ?_ | (with_reducible refine' ne_int ?_) | (with_reducible refine' r_add ?_ <;> intro _ _) | ((with_reducible refine' r_mod ?q9b ?_); (case q9b => decide); intro _ _) | ((with_reducible refine' r_fdiv ?q9b ?q9s ?_); (case q9b | q9s => decide); intro _ _) | ((with_reducible refine' r_addStr ?q9z ?_); (case q9z => k_extra "size"); intro _ _))))
    refine r_q_f (by simpa using heq) ?_
    (repeat' ((first | k_extra "w" | ((with_reducible refine' Assign_Tuple_swapped ?_ ?q9hs ?q9hw); rotate_left; (case q9hs | q9hw => exact rfl)) | ((with_reducible refine' r_unpackI ?q9a ?q9G ?q9m ?q9n ?_); (case q9a | q9G => assumption); (case q9m => k_extra "mem"); (case q9n => exact rfl); intro _ _) | k_extra "while" | with_reducible refine isTrue_or_nil ?_ | with_reducible refine r_wnext ?_ | with_reducible refine' GM.join ?_ | (with_reducible refine' ne_int ?_) | (with_reducible refine' r_add ?_ <;> intro _ _) | ((with_reducible refine' r_mod ?q9b ?_); (case q9b => decide); intro _ _) | ((with_reducible refine' r_fdiv ?q9b ?q9s ?_); (case q9b | q9s => decide); intro _ _) | ((with_reducible refine' r_addStr ?q9z ?_); (case q9z => k_extra "size"); intro _ _))))
    have hpl2 := congrArg List.length hpl
    rw [List.length_map, List.length_map, List.length_range] at hpl2
    obtain ⟨hj1, hj2, hj3⟩ := join_ok_of hpl (B := 1) (fun x hx => by obtain ⟨j, _, rfl⟩ := List.mem_map.mp hx; exact Nat.le_refl _) (by k_extra "le")
    refine r_join (by assumption) (by k_extra "mem") rfl hj1 fun u9 t9 => ?_
    have hsl := sizeLine_eq
    have hq : pi / 2 = ((m - 1 : Nat) : Int) := by rw [e1]; exact congrArg Int.ofNat ml2
    have hd0 : 0 ≤ pi / 2 := by rw [hq]; exact Int.natCast_nonneg _
    have hd5 : pi / 2 < 5 := by rw [hq]; exact Int.ofNat_lt.mpr ml5
    have hlog : (pi / 2).natAbs.log2 < 1920 := by rw [hq]; exact Nat.lt_of_le_of_lt (Nat.log2_le_self _) (Nat.lt_trans ml5 (by decide))
    have hdl : (Str.ofString (toString (pi / 2))).length = 1 := by rw [← codesOf_len, dig_codes hd0 hd5]; rfl
    obtain ⟨hz1, hz2, hz3, hz4⟩ := ring_sizes hj2 hdl
    (repeat' ((first | k_extra "w" | ((with_reducible refine' Assign_Tuple_swapped ?_ ?q9hs ?q9hw); rotate_left; (case q9hs | q9hw => exact rfl)) | ((with_reducible refine' r_unpackI ?q9a ?q9G ?q9m ?q9n ?_); (case q9a | q9G => assumption); (case q9m => k_extra "mem"); (case q9n => exact rfl); intro _ _) | k_extra "while" | with_reducible refine isTrue_or_nil ?_ | with_reducible refine r_wnext ?_ | with_reducible refine' GM.join ?_ | (with_reducible refine' ne_int ?_) | (with_reducible refine' r_add ?_ <;> intro _ _) | ((with_reducible refine' r_mod ?q9b ?_); (case q9b => decide); intro _ _) | ((with_reducible refine' r_fdiv ?q9b ?q9s ?_); (case q9b | q9s => decide); intro _ _) | ((with_reducible refine' r_addStr ?q9z ?_); (case q9z => k_extra "size"); intro _ _))))
    refine r_strInt hlog fun u6 t6 => ?_
    (repeat' ((first | k_extra "w" | ((with_reducible refine' Assign_Tuple_swapped ?_ ?q9hs ?q9hw); rotate_left; (case q9hs | q9hw => exact rfl)) | ((with_reducible refine' r_unpackI ?q9a ?q9G ?q9m ?q9n ?_); (case q9a | q9G => assumption); (case q9m => k_extra "mem"); (case q9n => exact rfl); intro _ _) | k_extra "while" | with_reducible refine isTrue_or_nil ?_ | with_reducible refine r_wnext ?_ | with_reducible refine' GM.join ?_ | (with_reducible refine' ne_int ?_) | (with_reducible refine' r_add ?_ <;> intro _ _) | ((with_reducible refine' r_mod ?q9b ?_); (case q9b => decide); intro _ _) | ((with_reducible refine' r_fdiv ?q9b ?q9s ?_); (case q9b | q9s => decide); intro _ _) | ((with_reducible refine' r_addStr ?q9z ?_); (case q9z => k_extra "size"); intro _ _))))
    exact hQ _ _ <| r_backP (by assumption) ⟨_, _, rfl, rfl, by
      rw [codesOf_app, codesOf_app, codesOf_app, codesOf_app, hj3, dig_codes hd0 hd5, hq]
      unfold ringT
      have e1 : codesOf (Str.ofString "(") = [40] := by decide +kernel
      have e2 : codesOf (Str.ofString " . #") = [32, 46, 32, 35] := by decide +kernel
      have e3 : codesOf (Str.ofString ")") = [41] := by decide +kernel
      have e4 : (48 + ((m - 1 : Nat) : Int)) = ((47 + m : Nat) : Int) := congrArg Int.ofNat ml4
      rw [e1, e2, e3, e4]; simp⟩ (by k_extra "sel")
end
section
variable {w : World} {p : Program} {loose : List Str} {mean : ExcName → Option Value} {mg mb : Str → Option Value} {rest : List (Addr × Obj)} {c : Ct} {LP : LPT}
/-- a ring of so many cells -/
structure Ring (K : Frag) (rest : List (Addr × Obj)) (m : Nat) (f : Nat → Addr) : Prop where
  cell : ∀ j, ∃ k t u, InsIn K rest (f j) 98 (coE k t (.int ((j % m : Nat) : Int) u) (.ref (f (j + 1))))
  ne : ∀ i j, j < i → i < j + m → f i ≠ f j
  per : ∀ j, f (j + m) = f j
theorem Ring.mono {K : Frag} {rest rest' : List (Addr × Obj)} {m : Nat} {f : Nat → Addr} (R : Ring K rest m f) (s : ∀ p ∈ rest, p ∈ rest') : Ring K rest' m f :=
  ⟨fun j => by obtain ⟨k, t, u, I⟩ := R.cell j; exact ⟨k, t, u, I.mono s⟩, R.ne, R.per⟩
noncomputable def rowR (m : Nat) : Nat → Nat → List Int
  | 0, _ => [32, 46, 32, 35, ((47 + m : Nat) : Int), 41]
  | k + 1, i => (if i = 0 then [] else [32]) ++ ringD m i ++ rowR m k (i + 1)
theorem rowR_T {m : Nat} (h1 : 1 ≤ m) (h5 : m ≤ 5) : ringT m = [40] ++ rowR m (2 * m - 1) 0 := by
  have hm5 : m = 1 ∨ m = 2 ∨ m = 3 ∨ m = 4 ∨ m = 5 := by omega
  rcases hm5 with rfl | rfl | rfl | rfl | rfl <;> decide +kernel
theorem rowR_len (m k i : Nat) : (rowR m k i).length ≤ 6 + 2 * k := by
  induction k generalizing i with
  | zero => exact Nat.le_refl _
  | succ k ih =>
    have := ih (i + 1)
    unfold rowR
    rw [List.length_append, List.length_append]
    have e : (ringD m i).length = 1 := rfl
    split <;> simp <;> omega
theorem ring_rows (T : c.T w p loose mean mg mb LP) {m : Nat} {f : Nat → Addr} (h1 : 1 ≤ m) (h5 : m ≤ 5) (hlen : c.len < 0) {js ar : List Value} (hj : js.length ≤ 800) : ∀ (k i : Nat) (rest : List (Addr × Obj)) (cs : List Int) (q : Addr) (u u2 : Tok), i + k = 2 * m - 1 → Ring (fr.heap_1 w.params) rest m f →
    c.B w rest → c.O w rest → (q, tupOf [.int 2 u, .ref (f i), .int (i : Int) u2, .ref (f (i / 2))]) ∈ rest → cs.length + (rowR m k i).length ≤ 1000000 →
    (∀ rest', (∀ p ∈ rest, p ∈ rest') → LP (cs ++ rowR m k i) js ar rest') → LP cs (js ++ [.ref q]) ar rest := by
  intro k
  induction k with
  | zero =>
    intro i rest cs q u u2 hi R hB hO hq hcs kk
    have hcs0 : cs.length ≤ 1000000 := Nat.le_trans (Nat.le_add_right _ _) hcs
    have e1 : f i = f (i / 2) := by
      have e : i = i / 2 + m := by omega
      have := R.per (i / 2)
      rw [← e] at this
      exact this
    rw [← e1] at hq
    have hdv : (i : Int) / 2 = (m : Int) - 1 := by omega
    have hd0 : 0 ≤ (i : Int) / 2 := by omega
    have hd5 : (i : Int) / 2 < 5 := by omega
    have hdc := dig_codes hd0 hd5
    have hdl : (Str.ofString (toString ((i : Int) / 2))).length ≤ 10 := by rw [← codesOf_len, hdc]; simp
    obtain ⟨k0, t0, u0, I⟩ := R.cell i
    have hrl := rowR_len m 0 i
    refine T.row _ _ _ _ _ _ _ _ _ _ hq hB (by k_extra "le") fun vs n1 n2 n3 hvs => ?_
    have hvl : vs.length ≤ 1000000 := by rw [hvs.length]; exact hcs0
    refine (sp_row_ring hB hO I (by k_extra "le") (by k_extra "le") (by k_extra "le") (by k_extra "le") hdl).mono fun r nw h => ?_
    obtain ⟨h1', vs', n1', n2', q1, q2, u3, u4, u5, u6, e, h2⟩ := h
    refine ⟨h1', vs ++ vs', _, ar, n1', n2', n3, _, cs ++ [32, 46, 32], e, ints_app hvs h2, ?_⟩
    have ec : codesOf (Str.empty ++ Str.ofString "#" ++ Str.ofString (toString ((i : Int) / 2))) = [35, ((47 + m : Nat) : Int)] := by
      rw [codesOf_app, hdc, show codesOf (Str.empty ++ Str.ofString "#") = [35] by decide +kernel, hdv]
      have e4 : (48 + ((m : Int) - 1)) = ((47 + m : Nat) : Int) := by omega
      rw [e4]; rfl
    have el : (Str.empty ++ Str.ofString "#" ++ Str.ofString (toString ((i : Int) / 2))).cps.size ≤ 100 := by
      show Str.length _ ≤ 100
      rw [← codesOf_len, ec]; simp
    have hr6 : (rowR m 0 i).length = 6 := rfl
    refine T.signs _ _ _ _ _ _ _ _ (.head _) (hB.mono memsub) (by simp; omega) (by simp; omega) el ?_
    refine T.signs _ _ _ _ _ _ _ _ (.tail _ (.head _)) (hB.mono memsub) (by k_extra "le") (by rw [ec]; simp; omega) (by decide +kernel) ?_
    have e9 : cs ++ [32, 46, 32] ++ codesOf (Str.empty ++ Str.ofString "#" ++ Str.ofString (toString ((i : Int) / 2))) ++ codesOf (Str.ofString ")") = cs ++ rowR m 0 i := by
      rw [show codesOf (Str.ofString ")") = [41] by decide +kernel, ec]; simp [rowR]
    rw [e9]
    exact kk _ memsub
  | succ k ih =>
    intro i rest cs q u u2 hi R hB hO hq hcs kk
    have hcs0 : cs.length ≤ 1000000 := Nat.le_trans (Nat.le_add_right _ _) hcs
    obtain ⟨k0, t0, u0, I⟩ := R.cell i
    obtain ⟨k3, t3, u3, J⟩ := R.cell (i / 2)
    have er : rowR m (k + 1) i = (if i = 0 then [] else [32]) ++ ringD m i ++ rowR m k (i + 1) := rfl
    rw [er] at hcs kk
    simp only [List.length_append] at hcs
    refine T.row _ _ _ _ _ _ _ _ _ _ hq hB (by k_extra "le") fun vs9 n1 n2 n3 hvs => ?_
    have hvl : vs9.length ≤ 1000000 := by rw [hvs.length]; exact hcs0
    refine (sp_row_next (hv := .ref (f ((i + 1) / 2))) hB hO I J (fun h0 => R.ne _ _ (by k_extra "le") (by k_extra "le")) rfl rfl rfl (by k_extra "le") (by k_extra "le") (by k_extra "le") ?_).mono fun r nw h => ?_
    · rcases Nat.mod_two_eq_zero_or_one i with ev | ev
      · refine .inr ⟨ev, ?_⟩
        have e2 : (i + 1) / 2 = i / 2 := by omega
        rw [e2]
      · refine .inl ⟨ev, ?_⟩
        have e2 : (i + 1) / 2 = i / 2 + 1 := by omega
        rw [e2]
    obtain ⟨h1', h | h⟩ := h
    · obtain ⟨hc, _⟩ := h
      omega
    · obtain ⟨hc, vs', n1', n2', q1, q2, u3, u4, u5, e, h2⟩ := h
      refine ⟨h1', vs9 ++ vs', _, ar, n1', n2', n3, _, _, e, ints_app hvs h2, ?_⟩
      have hmod : i % m < 5 := by have := Nat.mod_lt i (show 0 < m by omega); omega
      have hrc : codesOf (Str.ofString (toString ((i % m : Nat) : Int))) = ringD m i := by
        rw [dig_codes (by k_extra "le") (by k_extra "le")]; unfold ringD; simp
      refine run_int (res := ringD m i) T (hB.mono memsub) (by k_extra "le") hrc (by simp [ringD]) (.head _) (by simp; omega) (by simp only [List.length_append]; omega) ?_
      refine ih (i + 1) _ _ q1 u4 u5 (by k_extra "le") (R.mono memsub) (hB.mono memsub) (hO.mono memsub) (.tail _ (.head _)) (by simp only [List.length_append]; omega) fun rest'' hs2 => ?_
      have := kk rest'' fun p hp => hs2 p (memsub p hp)
      simpa only [List.append_assoc] using this
theorem sp_printed_ring {oA tb : Addr} {f : Nat → Addr} {m : Nat} {k2 : Nat → Int} {t2 : Nat → Tok} {lu lt : Tok} (R : Ring (fr.heap_1 w.params) rest m f) (h1 : 1 ≤ m) (h5 : m ≤ 5) (hO : InsIn (fr.heap_1 w.params) rest oA 312 (opE k2 t2 (.int (-1) lu) (.int (-1) lt) (.bool true))) :
    SP w p loose mean mg mb (.ref 440) [.ref (f 0), .ref oA, .ref tb] 40 140 rest (fun r nw => ∃ cA vs n, r = .ref cA ∧ nw = (cA, listOf vs.toArray n) :: rest ∧ IntsAre vs (ringT m)) := by
  refine sp_printed_gen rfl hO fun c LP T e1 e2 e3 e4 e5 e6 e7 e8 e9 rest1 hs hB fin q u => ?_
  subst e2 e3 e4 e7 e8
  have R1 := (R.mono hs).mono (rest' := (q, tupOf [.int 0 u, .ref (f 0)]) :: rest1) fun p hp => .tail _ hp
  have hB1 : c.B w ((q, tupOf [.int 0 u, .ref (f 0)]) :: rest1) := hB.mono fun p hp => .tail _ hp
  have hO1 : c.O w ((q, tupOf [.int 0 u, .ref (f 0)]) :: rest1) := by
    show InsIn _ _ c.oA 312 (opE c.k2 c.t2 (.int c.len c.lu) (.int c.lev c.lt) (.bool c.qb))
    rw [e5, e6, e9]
    exact hO.mono fun p hp => .tail _ (hs p hp)
  obtain ⟨k0, t0, u0, I⟩ := R1.cell 0
  rw [Nat.zero_mod] at I
  refine T.datum _ _ _ _ _ _ _ (.head _) hB1 (by decide) fun vs9 n1 n2 n3 hvs => ?_
  have hvl9 : vs9.length = 0 := hvs.length
  refine (sp_datum_cons I hB1 hO1 (sp_whole_cons (c2 := .none) (q := Str.ofString "") I hB1 hO1 (by intro v h; simp at h) (by decide) (by decide) (by k_extra "le") rfl rfl
    (fun news' s => sq_a (I.mono s) rfl rfl (.int _ _ rfl ki71)) (by decide +kernel) (fun hne => absurd hne (by decide +kernel)))).mono fun r nw h => ?_
  obtain ⟨h1', h⟩ := h
  refine ⟨h1', ?_⟩
  rcases h with ⟨l1, l2, _⟩ | ⟨hc, vs', n1', n2', n3', q1, q2, o2, u3, u4, e, h⟩
  · rw [e6] at l1; omega
  · rcases h with ⟨⟨_, hne⟩, _⟩ | ⟨_, h2, u5, rfl⟩
    · exact absurd hne (by decide +kernel)
    · refine ⟨vs9 ++ vs', _, _, n1', n2', n3', _, [] ++ [40], e, ints_app hvs h2, ?_⟩
      have hrl := rowR_len m (2 * m - 1) 0
      refine ring_rows T h1 h5 (by k_extra "le") (by simp) (2 * m - 1) 0 _ _ q2 u4 u5 (by k_extra "le") (R1.mono memsub) (hB1.mono memsub) (hO1.mono memsub) (.head _) (by simp; omega) fun rest' hs' => ?_
      refine T.left _ _ _ _ _ u3 _ (hs' _ (.tail _ (.head _))) (hB1.mono fun p hp => hs' p (memsub p hp)) (by simp) (by simp) ?_
      have := fin rest' fun p hp => hs' p (memsub p (.tail _ hp))
      rw [rowR_T h1 h5] at this
      exact this
end
section
variable {w : World} {p : Program} {loose : List Str} {mean : ExcName → Option Value} {mg mb : Str → Option Value} {rest : List (Addr × Obj)}
section
variable {pA cA jA rA oA : Addr} {ob lb len qu lev : Value} {vs js ar : List Value} {n1 n2 n3 : Nat} {k1 k2 : Nat → Int} {t1 t2 : Nat → Tok}
/-- a list that stands first around itself -/
theorem sp_whole_met {x : Addr} {k : Nat → Int} {t : Nat → Tok} {car cdr : Value} (hx : InsIn (fr.heap_1 w.params) rest x 98 (coE k t car cdr)) (hp : InsIn (fr.heap_1 w.params) rest pA 429 (prE k1 t1 oA ob lb cA jA rA)) (ho : InsIn (fr.heap_1 w.params) rest oA 312 (opE k2 t2 len lev qu))
    (har : ar.length ≤ 900) (hs : vs.length ≤ 1000000) :
    SP w p loose mean mg mb (.ref 398) [.ref pA, .ref x] 20 60 (PL cA jA rA vs js (.ref x :: ar) n1 n2 n3 rest) (fun r nw => r = .none ∧ ∃ vs' n1', nw = PL cA jA rA (vs ++ vs') js (.ref x :: ar) n1' n2 n3 rest ∧ IntsAre vs' [35, 48]) := by
  ((unfold SP; k_fill; refine' Sp.def ?ho ?hcd ?hb ?hl ?h1 ?h2 ?h3 ?h4 ?_; (case ho | hcd => k_is); (case hb => first | exact fun _ _ => BindsTo.of_eq (binds := [(_, _)]) rfl | exact fun _ _ => BindsTo.of_eq (binds := [(_, _), (_, _)]) rfl | exact fun _ _ => BindsTo.of_eq (binds := [(_, _), (_, _), (_, _)]) rfl | exact fun _ _ => BindsTo.of_eq (binds := [(_, _), (_, _), (_, _), (_, _)]) rfl | exact fun _ _ => BindsTo.of_eq rfl); (case hl => exact locs rfl); (case h1 | h2 | h3 => exact rfl); (case h4 => decide); intro _ _ _ _ _ _ _ _ _ _ _ _ _ _; ((refine wpAny_hide ?_; intro _ hQ))))
  (repeat' ((first | k_extra "w" | with_reducible refine' r_joined ?_ | with_reducible refine' r_fmt ?_ | ((with_reducible refine' r_range1 ?q9G ?_); (case q9G => assumption); intro _ _ _ _ _ _) | with_reducible refine' r_jpart ?_ | ((with_reducible refine' r_jnil ?q9z ?_); (case q9z => k_extra "size"); intro _ _) | with_reducible refine' r_isSame ?_)))
  rename_i r _ _ _ _ _
  refine r_forRange (n := (Value.ref x :: ar).length) (fun i m nw => i = 0 ∧ nw = (r, rgObj 0 (Value.ref x :: ar).length 1 _ _ _) :: PL cA jA rA vs js (.ref x :: ar) n1 n2 n3 rest ∧
    m (Str.ofString "self") = some (.ref pA) ∧ m (Str.ofString "datum") = some (.ref x)) (by assumption) rfl rfl (by assumption) (.head _) (small_nat (Nat.le_trans (Nat.succ_le_succ har) (by decide))) (by rw [size_up (by k_extra "le")]; simp) ⟨rfl, rfl, rfl, rfl⟩ ?_ ?_
  · rintro I i h t m nw u oI hi ⟨rfl, rfl, m1, m2⟩ G
    refine wpAny_hide fun Q8 hT => ?_
    (repeat' ((first | k_extra "w" | with_reducible refine' r_joined ?_ | with_reducible refine' r_fmt ?_ | ((with_reducible refine' r_range1 ?q9G ?_); (case q9G => assumption); intro _ _ _ _ _ _) | with_reducible refine' r_jpart ?_ | ((with_reducible refine' r_jnil ?q9z ?_); (case q9z => k_extra "size"); intro _ _) | with_reducible refine' r_isSame ?_)))
    refine r_item (by assumption) (by k_extra "mem") (by k_extra "le") (by k_extra "le") (v := .ref x) rfl (by with_unfolding_all rfl) ?_
    (repeat' ((first | k_extra "w" | with_reducible refine' r_joined ?_ | with_reducible refine' r_fmt ?_ | ((with_reducible refine' r_range1 ?q9G ?_); (case q9G => assumption); intro _ _ _ _ _ _) | with_reducible refine' r_jpart ?_ | ((with_reducible refine' r_jnil ?q9z ?_); (case q9z => k_extra "size"); intro _ _) | with_reducible refine' r_isSame ?_)))
    refine ⟨_, _, rfl, by decide +kernel, ?_⟩
    (repeat' ((first | k_extra "w" | with_reducible refine' r_joined ?_ | with_reducible refine' r_fmt ?_ | ((with_reducible refine' r_range1 ?q9G ?_); (case q9G => assumption); intro _ _ _ _ _ _) | with_reducible refine' r_jpart ?_ | ((with_reducible refine' r_jnil ?q9z ?_); (case q9z => k_extra "size"); intro _ _) | with_reducible refine' r_isSame ?_)))
    have e0 : (0 : Int) + ((0 : Nat) : Int) * 1 = 0 := rfl
    rw [e0]
    refine r_fmtInt (by decide) fun u' t' => ?_
    refine ⟨_, _, rfl, by decide +kernel, ?_⟩
    (repeat' ((first | k_extra "w" | with_reducible refine' r_joined ?_ | with_reducible refine' r_fmt ?_ | ((with_reducible refine' r_range1 ?q9G ?_); (case q9G => assumption); intro _ _ _ _ _ _) | with_reducible refine' r_jpart ?_ | ((with_reducible refine' r_jnil ?q9z ?_); (case q9z => k_extra "size"); intro _ _) | with_reducible refine' r_isSame ?_)))
    refine cal (by assumption) (sp_codes (x := Str.empty ++ Str.ofString "#" ++ Str.ofString (toString (0 : Int))) (by decide +kernel)) ?_
    rintro v nw h' t' ⟨D, cs, nq, rfl, rfl, hcs⟩ G
    have hcs : IntsAre cs [35, 48] := by rw [show codesOf (Str.empty ++ Str.ofString "#" ++ Str.ofString (toString (0 : Int))) = [35, 48] by decide +kernel] at hcs; exact hcs
    have hcl : cs.length = 2 := hcs.length
    (repeat' ((first | k_extra "w" | with_reducible refine' r_joined ?_ | with_reducible refine' r_fmt ?_ | ((with_reducible refine' r_range1 ?q9G ?_); (case q9G => assumption); intro _ _ _ _ _ _) | with_reducible refine' r_jpart ?_ | ((with_reducible refine' r_jnil ?q9z ?_); (case q9z => k_extra "size"); intro _ _) | with_reducible refine' r_isSame ?_)))
    refine hT _ _ ?_
    refine r_turnret ?_
    (repeat' ((first | k_extra "w" | with_reducible refine' r_joined ?_ | with_reducible refine' r_fmt ?_ | ((with_reducible refine' r_range1 ?q9G ?_); (case q9G => assumption); intro _ _ _ _ _ _) | with_reducible refine' r_jpart ?_ | ((with_reducible refine' r_jnil ?q9z ?_); (case q9z => k_extra "size"); intro _ _) | with_reducible refine' r_isSame ?_)))
    exact hQ _ _ <| r_backP (by assumption) ⟨rfl, cs, _, rfl, hcs⟩ (by k_extra "sel")
  · rintro h t m nw ⟨e, _⟩ G
    simp at e
end
end
section
variable {w : World} {p : Program} {loose : List Str} {mean : ExcName → Option Value} {mg mb : Str → Option Value} {rest : List (Addr × Obj)} {c : Ct} {LP : LPT} {cs : List Int} {js ar : List Value} {q : Addr} {u : Tok}
section
variable (T : c.T w p loose mean mg mb LP) (hB : c.B w rest) (hO : c.O w rest) (hj : js.length ≤ 800) (hcs : cs.length ≤ 900000)
include T hB hO hj hcs
theorem kn_cons {x : Addr} {k0 : Nat → Int} {t0 : Nat → Tok} {car cdr : Value} (hlev : c.lev < 0) (I : InsIn (fr.heap_1 w.params) rest x 98 (coE k0 t0 car cdr)) (H : IsV (fr.heap_1 w.params) rest car (.ref 71) false) (hf : Far (fr.heap_1 w.params) rest x ar) (har : ar.length ≤ 800) (h1 : handedIn car = true) (h2 : handedIn cdr = true)
    (hq : (q, tupOf [.int 0 u, .ref x]) ∈ rest) (k : ∀ q1 q2 u3 u4 u5, LP (cs ++ [40]) (js ++ [.ref q1] ++ [.ref q2]) (ar ++ [.ref x]) ((q2, tupOf [.int 2 u4, .ref x, .int 0 u5, .ref x]) :: (q1, tupOf [.int 4 u3, .none]) :: rest)) : LP cs (js ++ [.ref q]) ar rest := by
  refine T.datum _ _ _ _ _ _ _ hq hB (by k_extra "le") fun vs9 n1 n2 n3 hvs => ?_
  have hvl9 : vs9.length = cs.length := hvs.length
  refine (sp_datum_cons I hB hO (sp_whole_cons (c2 := .none) (q := Str.ofString "") I hB hO hf (by k_extra "le") (by k_extra "le") (by k_extra "le") h1 h2
    (fun news' s => sq_a (I.mono s) h1 h2 (H.mono s)) (by decide +kernel) (fun hne => absurd hne (by decide +kernel)))).mono fun r nw h => ?_
  obtain ⟨h1', h⟩ := h
  refine ⟨h1', ?_⟩
  rcases h with ⟨l1, l2, _⟩ | ⟨hc, vs', n1', n2', n3', q1, q2, o2, u3, u4, e, h⟩
  · omega
  · rcases h with ⟨⟨_, hne⟩, _⟩ | ⟨_, h2, u5, rfl⟩
    · exact absurd hne (by decide +kernel)
    · exact ⟨vs9 ++ vs', _, _, n1', n2', n3', _, cs ++ [40], e, ints_app hvs h2, k _ _ _ _ _⟩
theorem kn_vec {x l : Addr} {k0 : Nat → Int} {t0 : Nat → Tok} (hlev : c.lev < 0) (I : InsIn (fr.heap_1 w.params) rest x 141 (veE k0 t0 l)) (hf : Far (fr.heap_1 w.params) rest x ar) (har : ar.length ≤ 800)
    (hq : (q, tupOf [.int 0 u, .ref x]) ∈ rest) (k : ∀ q1 q2 u3 u4 u5, LP (cs ++ [91]) (js ++ [.ref q1] ++ [.ref q2]) (ar ++ [.ref x]) ((q2, tupOf [.int 3 u4, .ref l, .int 0 u5]) :: (q1, tupOf [.int 4 u3, .none]) :: rest)) : LP cs (js ++ [.ref q]) ar rest := by
  refine T.datum _ _ _ _ _ _ _ hq hB (by k_extra "le") fun vs9 n1 n2 n3 hvs => ?_
  have hvl9 : vs9.length = cs.length := hvs.length
  refine (sp_datum_vec I hB hO (sp_whole_vec I hB hO hf (by k_extra "le") (by k_extra "le") (by k_extra "le"))).mono fun r nw h => ?_
  obtain ⟨h1', h⟩ := h
  refine ⟨h1', ?_⟩
  rcases h with ⟨l1, l2, _⟩ | ⟨hc, vs', n1', n2', n3', q1, q2, u3, u4, u5, e, h2⟩
  · omega
  · exact ⟨vs9 ++ vs', _, _, n1', n2', n3', _, cs ++ [91], e, ints_app hvs h2, k _ _ _ _ _⟩
theorem kn_met {x : Addr} {k0 : Nat → Int} {t0 : Nat → Tok} {car cdr : Value} {ar' : List Value} (e0 : ar = .ref x :: ar') (I : InsIn (fr.heap_1 w.params) rest x 98 (coE k0 t0 car cdr)) (har : ar'.length ≤ 800)
    (hq : (q, tupOf [.int 0 u, .ref x]) ∈ rest) (k : LP (cs ++ [35, 48]) js ar rest) : LP cs (js ++ [.ref q]) ar rest := by
  subst e0
  refine T.datum _ _ _ _ _ _ _ hq hB (by k_extra "le") fun vs9 n1 n2 n3 hvs => ?_
  have hvl9 : vs9.length = cs.length := hvs.length
  refine (sp_datum_cons I hB hO (sp_whole_met I hB hO (by k_extra "le") (by k_extra "le"))).mono fun r nw h => ?_
  obtain ⟨h1', vs', n1', e, h2⟩ := h
  exact ⟨h1', vs9 ++ vs', _, _, n1', n2, n3, _, _, e, ints_app hvs h2, k⟩
theorem kn_next {x y : Addr} {k0 k3 : Nat → Int} {t0 t3 : Nat → Tok} {car cdr car' cdr' hv : Value} {i : Nat} {u2 : Tok} (hlen : c.len < 0) (I : InsIn (fr.heap_1 w.params) rest x 98 (coE k0 t0 car cdr)) (J : InsIn (fr.heap_1 w.params) rest y 98 (coE k3 t3 car' cdr')) (ne : 0 < i → x ≠ y) (h1 : handedIn car = true) (h2 : handedIn cdr = true) (h3 : handedIn cdr' = true) (hi : i ≤ 1000)
    (hh : (i % 2 = 1 ∧ hv = cdr') ∨ (i % 2 = 0 ∧ hv = .ref y)) (hq : (q, tupOf [.int 2 u, .ref x, .int (i : Int) u2, .ref y]) ∈ rest)
    (k : ∀ q1 q2 u3 u4 u5, LP (cs ++ (if i = 0 then [] else [32])) (js ++ [.ref q1] ++ [.ref q2]) ar ((q2, tupOf [.int 0 u3, car]) :: (q1, tupOf [.int 2 u4, cdr, .int ((i : Int) + 1) u5, hv]) :: rest)) : LP cs (js ++ [.ref q]) ar rest := by
  refine T.row _ _ _ _ _ _ _ _ _ _ hq hB (by k_extra "le") fun vs9 n1 n2 n3 hvs => ?_
  have hvl : vs9.length = cs.length := hvs.length
  refine (sp_row_next hB hO I J ne h1 h2 h3 (by k_extra "le") (by k_extra "le") hi hh).mono fun r nw h => ?_
  obtain ⟨h1', h | h⟩ := h
  · obtain ⟨hc, _⟩ := h
    omega
  · obtain ⟨hc, vs', n1', n2', q1, q2, u3, u4, u5, e, h2⟩ := h
    exact ⟨h1', vs9 ++ vs', _, ar, n1', n2', n3, _, _, e, ints_app hvs h2, k _ _ _ _ _⟩
theorem kn_nil {i : Int} {u2 : Tok} {half : Value} (hq : (q, tupOf [.int 2 u, .ref 77, .int i u2, half]) ∈ rest) (k : LP (cs ++ [41]) js ar rest) : LP cs (js ++ [.ref q]) ar rest := by
  refine T.row _ _ _ _ _ _ _ _ _ _ hq hB (by k_extra "le") fun vs9 n1 n2 n3 hvs => ?_
  have hvl : vs9.length = cs.length := hvs.length
  refine (sp_row_nil hB (by k_extra "le")).mono fun r nw h => ?_
  obtain ⟨h1', vs', n1', e, h2⟩ := h
  exact ⟨h1', vs9 ++ vs', _, ar, n1', n2, n3, _, _, e, ints_app hvs h2, k⟩
theorem kn_cell {l : Addr} {ts : List Value} {n i : Nat} {v : Value} {u2 : Tok} (hlen : c.len < 0) (hl : (l, listOf ts.toArray n) ∈ rest) (hts : ts.length ≤ 1000) (hv : ts[i]? = some v) (hq : (q, tupOf [.int 3 u, .ref l, .int (i : Int) u2]) ∈ rest)
    (k : ∀ q1 q2 u3 u4 u5, LP (cs ++ (if i = 0 then [] else [32])) (js ++ [.ref q1] ++ [.ref q2]) ar ((q2, tupOf [.int 0 u3, v]) :: (q1, tupOf [.int 3 u4, .ref l, .int ((i : Int) + 1) u5]) :: rest)) : LP cs (js ++ [.ref q]) ar rest := by
  refine T.cells _ _ _ _ _ _ _ _ _ hq hB (by k_extra "le") fun vs9 n1 n2 n3 hvs => ?_
  have hvl : vs9.length = cs.length := hvs.length
  refine (sp_cells_next hB hO hl hts hv (by k_extra "le") (by k_extra "le")).mono fun r nw h => ?_
  obtain ⟨h1', h | h⟩ := h
  · obtain ⟨hc, _⟩ := h
    omega
  · obtain ⟨hc, vs', n1', n2', q1, q2, u3, u4, u5, e, h2⟩ := h
    exact ⟨h1', vs9 ++ vs', _, ar, n1', n2', n3, _, _, e, ints_app hvs h2, k _ _ _ _ _⟩
theorem kn_cend {l : Addr} {ts : List Value} {n : Nat} {u2 : Tok} (hl : (l, listOf ts.toArray n) ∈ rest) (hts : ts.length ≤ 1000) (hq : (q, tupOf [.int 3 u, .ref l, .int (ts.length : Int) u2]) ∈ rest) (k : LP (cs ++ [93]) js ar rest) : LP cs (js ++ [.ref q]) ar rest := by
  refine T.cells _ _ _ _ _ _ _ _ _ hq hB (by k_extra "le") fun vs9 n1 n2 n3 hvs => ?_
  have hvl : vs9.length = cs.length := hvs.length
  refine (sp_cells_end hB hl hts (by k_extra "le")).mono fun r nw h => ?_
  obtain ⟨h1', vs', n1', e, h2⟩ := h
  exact ⟨h1', vs9 ++ vs', _, ar, n1', n2, n3, _, _, e, ints_app hvs h2, k⟩
end
end
section
variable {w : World} {p : Program} {loose : List Str} {mean : ExcName → Option Value} {mg mb : Str → Option Value} {rest : List (Addr × Obj)}
/-- the knot: a list that holds a vector that holds a list that holds the first -/
structure Knot (K : Frag) (rest : List (Addr × Obj)) (o0 o1 V l i0 i1 : Addr) : Prop where
  c0 : ∃ k t u, InsIn K rest o0 98 (coE k t (.int 3 u) (.ref o1))
  c1 : ∃ k t, InsIn K rest o1 98 (coE k t (.ref V) (.ref 77))
  cv : ∃ k t, InsIn K rest V 141 (veE k t l)
  cl : ∃ n, (l, listOf [Value.ref i0].toArray n) ∈ rest
  d0 : ∃ k t, InsIn K rest i0 98 (coE k t (.ref o0) (.ref i1))
  d1 : ∃ k t u, InsIn K rest i1 98 (coE k t (.int 2 u) (.ref 77))
  n1 : o1 ≠ o0
  n2 : o0 ≠ V
  n3 : o0 ≠ i0
  n4 : V ≠ i0
  n5 : i1 ≠ i0
theorem Knot.mono {K : Frag} {rest rest' : List (Addr × Obj)} {o0 o1 V l i0 i1 : Addr} (R : Knot K rest o0 o1 V l i0 i1) (s : ∀ p ∈ rest, p ∈ rest') : Knot K rest' o0 o1 V l i0 i1 := by
  obtain ⟨⟨a1, a2, a3, a4⟩, ⟨b1, b2, b3⟩, ⟨c1, c2, c3⟩, ⟨d1, d2⟩, ⟨e1, e2, e3⟩, ⟨f1, f2, f3, f4⟩, h1, h2, h3, h4, h5⟩ := R
  exact ⟨⟨a1, a2, a3, a4.mono s⟩, ⟨b1, b2, b3.mono s⟩, ⟨c1, c2, c3.mono s⟩, ⟨d1, s _ d2⟩, ⟨e1, e2, e3.mono s⟩, ⟨f1, f2, f3, f4.mono s⟩, h1, h2, h3, h4, h5⟩
noncomputable def knotT : List Int := [40, 51, 32, 91, 40, 35, 48, 32, 50, 41, 93, 41]
theorem sp_printed_knot {oA tb o0 o1 V l i0 i1 : Addr} {k2 : Nat → Int} {t2 : Nat → Tok} {lu lt : Tok} (R : Knot (fr.heap_1 w.params) rest o0 o1 V l i0 i1) (hO : InsIn (fr.heap_1 w.params) rest oA 312 (opE k2 t2 (.int (-1) lu) (.int (-1) lt) (.bool true))) :
    SP w p loose mean mg mb (.ref 440) [.ref o0, .ref oA, .ref tb] 40 140 rest (fun r nw => ∃ cA vs n, r = .ref cA ∧ nw = (cA, listOf vs.toArray n) :: rest ∧ IntsAre vs knotT) := by
  refine sp_printed_gen rfl hO fun c LP T e1 e2 e3 e4 e5 e6 e7 e8 e9 rest1 hs hB fin q u => ?_
  subst e2 e3 e4 e7 e8
  have hlen : c.len < 0 := by omega
  have hlev : c.lev < 0 := by omega
  have hO1 : c.O w rest1 := by
    show InsIn _ _ c.oA 312 (opE c.k2 c.t2 (.int c.len c.lu) (.int c.lev c.lt) (.bool c.qb))
    rw [e5, e6, e9]
    exact hO.mono hs
  obtain ⟨⟨ka, ta, ua, I0⟩, ⟨kb, tb', I1⟩, ⟨kc, tc, IV⟩, ⟨nl, hl⟩, ⟨kd, td, J0⟩, ⟨ke, te, ue, J1⟩, n1, n2, n3, n4, n5⟩ := R.mono hs
  have f0 : ∀ x, Far (fr.heap_1 w.params) rest1 x [] := by intro x v h; simp at h
  have f1 : Far (fr.heap_1 w.params) rest1 V ([] ++ [.ref o0]) := by
    intro v h; simp at h; subst h; exact ⟨_, _, _, rfl, I0, n2⟩
  have f2 : Far (fr.heap_1 w.params) rest1 i0 ([] ++ [.ref o0] ++ [.ref V]) := by
    intro v h; simp at h
    rcases h with rfl | rfl
    · exact ⟨_, _, _, rfl, I0, n3⟩
    · exact ⟨_, _, _, rfl, IV, n4⟩
  have fm : ∀ {r r' : List (Addr × Obj)} {x : Addr} {ar : List Value}, Far (fr.heap_1 w.params) r x ar → (∀ p ∈ r, p ∈ r') → Far (fr.heap_1 w.params) r' x ar := fun h s v hv => by
    obtain ⟨y, C, es, a, b, c⟩ := h v hv
    exact ⟨y, C, es, a, b.mono s, c⟩
  have lev5 : ∀ (cs : List Int), cs.length ≤ 40 → cs.length ≤ 900000 := fun cs h => by omega
  refine kn_cons T (hB.mono (by k_extra "sub")) (hO1.mono (by k_extra "sub")) (by simp) (by simp) hlev (I0.mono (by k_extra "sub")) (.int _ _ rfl ki71) (fm (f0 _) (by k_extra "sub")) (by simp) rfl rfl (by k_extra "mem") fun q1 q2 u3 u4 u5 => ?_
  refine kn_next (i := 0) T (hB.mono (by k_extra "sub")) (hO1.mono (by k_extra "sub")) (by simp) (by simp) hlen (I0.mono (by k_extra "sub")) (I0.mono (by k_extra "sub")) (fun h => absurd h (by decide)) rfl rfl rfl (by decide) (.inr ⟨rfl, rfl⟩) (by k_extra "mem") fun q3 q4 u6 u7 u8 => ?_
  refine run_int (n := 3) (res := [51]) T (hB.mono (by k_extra "sub")) (by decide) (by decide +kernel) (by decide) (by k_extra "mem") (by simp) (by simp) ?_
  refine kn_next (i := 1) T (hB.mono (by k_extra "sub")) (hO1.mono (by k_extra "sub")) (by simp) (by simp) hlen (I1.mono (by k_extra "sub")) (I0.mono (by k_extra "sub")) (fun _ => n1) rfl rfl rfl (by decide) (.inl ⟨rfl, rfl⟩) (by k_extra "mem") fun q5 q6 u9 u10 u11 => ?_
  refine kn_vec T (hB.mono (by k_extra "sub")) (hO1.mono (by k_extra "sub")) (by simp) (by simp) hlev (IV.mono (by k_extra "sub")) (fm f1 (by k_extra "sub")) (by simp) (by k_extra "mem") fun q7 q8 u12 u13 u14 => ?_
  refine kn_cell (i := 0) T (hB.mono (by k_extra "sub")) (hO1.mono (by k_extra "sub")) (by simp) (by simp) hlen (by k_extra "mem") (by simp) rfl (by k_extra "mem") fun q9 q10 u15 u16 u17 => ?_
  refine kn_cons T (hB.mono (by k_extra "sub")) (hO1.mono (by k_extra "sub")) (by simp) (by simp) hlev (J0.mono (by k_extra "sub")) (.obj _ _ _ rfl (I0.mono (by k_extra "sub")) iok_cons k98s) (fm f2 (by k_extra "sub")) (by simp) rfl rfl (by k_extra "mem") fun q11 q12 u18 u19 u20 => ?_
  refine kn_next (i := 0) T (hB.mono (by k_extra "sub")) (hO1.mono (by k_extra "sub")) (by simp) (by simp) hlen (J0.mono (by k_extra "sub")) (J0.mono (by k_extra "sub")) (fun h => absurd h (by decide)) rfl rfl rfl (by decide) (.inr ⟨rfl, rfl⟩) (by k_extra "mem") fun q13 q14 u21 u22 u23 => ?_
  refine kn_met (ar' := [.ref V, .ref i0]) T (hB.mono (by k_extra "sub")) (hO1.mono (by k_extra "sub")) (by simp) (by simp) rfl (I0.mono (by k_extra "sub")) (by simp) (by k_extra "mem") ?_
  refine kn_next (i := 1) T (hB.mono (by k_extra "sub")) (hO1.mono (by k_extra "sub")) (by simp) (by simp) hlen (J1.mono (by k_extra "sub")) (J0.mono (by k_extra "sub")) (fun _ => n5) rfl rfl rfl (by decide) (.inl ⟨rfl, rfl⟩) (by k_extra "mem") fun q15 q16 u24 u25 u26 => ?_
  refine run_int (n := 2) (res := [50]) T (hB.mono (by k_extra "sub")) (by decide) (by decide +kernel) (by decide) (by k_extra "mem") (by simp) (by simp) ?_
  refine kn_nil T (hB.mono (by k_extra "sub")) (hO1.mono (by k_extra "sub")) (by simp) (by simp) (by k_extra "mem") ?_
  refine T.left _ _ _ _ _ _ _ (by k_extra "mem") (hB.mono (by k_extra "sub")) (by simp) (by simp) ?_
  refine kn_cend T (hB.mono (by k_extra "sub")) (hO1.mono (by k_extra "sub")) (by simp) (by simp) (by k_extra "mem") (by simp) (by k_extra "mem") ?_
  refine T.left _ _ _ _ _ _ _ (by k_extra "mem") (hB.mono (by k_extra "sub")) (by simp) (by simp) ?_
  refine kn_nil T (hB.mono (by k_extra "sub")) (hO1.mono (by k_extra "sub")) (by simp) (by simp) (by k_extra "mem") ?_
  refine T.left _ _ _ _ _ _ _ (by k_extra "mem") (hB.mono (by k_extra "sub")) (by simp) (by simp) ?_
  exact fin _ (by k_extra "sub")
end
section
theorem pick_fn {K : Frag} {P : Str → List Stmt → Scope → Prop} {f : Addr} {name qual name' qual' : Str} {params params' : Arguments} {body body' : List Stmt} {scope scope' : Scope} {dV kV doc pm cdv ct oc dV' kV' doc' pm' cdv' ct' oc' : Value} {an od an' od' : Option Addr} {osl osl' : Array (Option Value)}
    (h1 : K.lookup f = some ⟨oc, od, .func (fnOf name qual params body scope dV kV doc pm an cdv ct), osl⟩) (h2 : K.lookup f = some ⟨oc', od', .func (fnOf name' qual' params' body' scope' dV' kV' doc' pm' an' cdv' ct'), osl'⟩) (k : P qual body scope) : P qual' body' scope' := by
  have e := h1.symm.trans h2
  simp only [fnOf, Option.some.injEq, Obj.mk.injEq, Data.func.injEq, FuncData.mk.injEq, FuncBody.stmts.injEq] at e
  obtain ⟨_, _, ⟨_, rfl, _, rfl, rfl, _⟩, _⟩ := e
  exact k
section
variable {prog : Program} {w : World} {A : Around} {E : Value → Shared → Prop} {K : Frag} {p : Program} {loose : List Str} {mean : ExcName → Option Value} {mg mb : Str → Option Value} {A₀ : Around} {base h₀ h : Heap} {outer : List Env} {L : Addr} {m : Str → Option Value} {news : List (Addr × Obj)} {g : Array GenState} {d : Drawn} {t dn un dn' un' : Nat} {os : OsState} {env : Env}
theorem calH {H : Heap → Prop} {f : Value} {vs : List Value} {post : Value → List (Addr × Obj) → Prop} {Q : Value → Shared → Prop} (G : Lg h₀ L h m news) (S : SpH prog w K p loose mean mg mb H f vs dn un news post) (hH : H h₀)
    (k : ∀ v news' h' t', post v news' → Lg h₀ L h' m news' → Q v ⟨h', g, d, t', os⟩) (a : Ar A env outer dn' un' := by assumption) (X : Gr K p loose mean mg mb A₀ base outer h₀ := by assumption)
    (h1 : dn ≤ dn' := by decide) (h2 : un ≤ un' := by decide) (hf : env.frame = some L := by rfl) (hk : env.scope.kind = .function := by rfl) : wpAny (model prog w) A (call f vs) Q E ⟨h, g, d, t, os⟩ :=
  S _ _ _ _ _ _ _ _ _ _ _ _ _ _ _ (a.le h1 h2) hf hk X G hH k
theorem Put.of_mem {D : Addr} {o o' : Obj} : ∀ {l : List (Addr × Obj)}, (D, o) ∈ l → ∃ l', Put D o o' l l'
  | _ :: r, .head _ => ⟨_, .head⟩
  | _ :: r, .tail _ h => by obtain ⟨l', U⟩ := Put.of_mem h; exact ⟨_, .tail U⟩
theorem Put.here {D : Addr} {o o' : Obj} {l l' : List (Addr × Obj)} (U : Put D o o' l l') : (D, o') ∈ l' := by
  obtain ⟨a, b, rfl, rfl⟩ := U.split; simp
theorem Put.keep {D : Addr} {o o' : Obj} {l l' : List (Addr × Obj)} (U : Put D o o' l l') {q : Addr × Obj} (h : q ∈ l) (ne : q.2 ≠ o) : q ∈ l' := by
  obtain ⟨a, b, rfl, rfl⟩ := U.split
  rcases List.mem_append.mp h with h | h
  · exact List.mem_append_left _ h
  · rcases List.mem_cons.mp h with rfl | h
    · exact absurd rfl ne
    · exact List.mem_append_right _ (.tail _ h)
end
theorem fill_it : PySem.Challenge.rw_np0072_01 = PySem.Challenge.rw_np0072_01 ∧ fr.heap_1 = fr.heap_1 := by
  k_fill
  exact ⟨rfl, rfl⟩
theorem t_in {w : World} {news : List (Addr × Obj)} : ∃ k t, InsIn (fr.heap_1 w.params) news 80 71 (syE k t 1 (Str.ofString "t")) := ⟨fun i => [PyData.keyHash w.params (Str.ofString "number"), PyData.keyHash w.params (Str.ofString "name")].getD i 0, fun i => [293, 295, 287, 288].getD i 0, .own (by k_is) (by k_is)⟩
theorem tab_first {w : World} {news : List (Addr × Obj)} : TabOk w [(Str.ofString "nil", .ref 77), (Str.ofString "t", .ref 80)] news := by
  intro x v h
  obtain ⟨k1, t1, I1⟩ := nil_in (w := w) (news := news)
  obtain ⟨k2, t2, I2⟩ := t_in (w := w) (news := news)
  by_cases e1 : x = Str.ofString "nil"
  · subst e1
    have : v = .ref 77 := Option.some.inj (h.symm.trans rfl)
    exact ⟨77, k1, t1, 0, this, I1⟩
  · by_cases e2 : x = Str.ofString "t"
    · subst e2
      have : v = .ref 80 := Option.some.inj (h.symm.trans rfl)
      exact ⟨80, k2, t2, 1, this, I2⟩
    · unfold valueAt at h
      simp [Ne.symm e1, Ne.symm e2] at h
section
variable {M : Model} {A : Around} {E : Value → Shared → Prop} {env : Env}
theorem r_asAttr {o : Expr} {attr : Str} {pos : Pos} {v : Value} {s : Shared} {Q : Unit → Shared → Prop} (h : wpAny M A (eval o env) (fun ov s₂ => wpAny M A (setAttr ov attr v) Q E s₂) E s) : wpAny M A (assign (.Attribute o attr pos) env v) Q E s := fun Γ p hΓ => by
  simp only [assign_Attribute, Sem.wp_bind', Sem.wp_holding, Sem.wp_cmd_standAt, Sem.wp_release]
  exact Sem.wp_mono M Γ _ (fun ov _ s₂ h₂ => h₂ Γ _ hΓ) (fun _ _ _ h' => h') _ _ (h Γ p hΓ)
end
section
variable {prog : Program} {w : World} {A : Around} {E : Value → Shared → Prop} {h₀ h : Heap} {outer : List Env} {L D : Addr} {m : Str → Option Value} {news : List (Addr × Obj)} {g : Array GenState} {d : Drawn} {t dn un : Nat} {os : OsState} {env : Env}
theorem r_unpA2 {e1 e2 : Expr} {x1 x2 : Str} {p1 p2 : Pos} {k0 : Nat} {pos : Pos} {v1 v2 : Value} {Q : Unit → Shared → Prop} (ha : Ar A env outer dn un) (G : Lg h₀ L h m news) (hm : (D, tupOf [v1, v2]) ∈ news)
    (k : ∀ h', Lg h₀ L h' m news → wpAny (model prog w) A (eval e1 env) (fun ov s1 => wpAny (model prog w) A (setAttr ov x1 v1) (fun _ s2 => wpAny (model prog w) A (eval e2 env) (fun ov s3 => wpAny (model prog w) A (setAttr ov x2 v2) Q E s3) E s2) E s1) E ⟨h', g, d, t, os⟩) :
    wpAny (model prog w) A (assign (.Tuple [.Attribute e1 x1 p1, .Attribute e2 x2 p2] k0 pos) env (.ref D)) Q E ⟨h, g, d, t, os⟩ := by
  refine r_unpack ha G hm rfl rfl fun h' G => ?_
  show wpAny _ _ (assignInOrder [assign (.Attribute e1 x1 p1) env, assign (.Attribute e2 x2 p2) env] [v1, v2]) _ _ _
  refine assignInOrder_cons (r_asAttr (wpAny_mono (k h' G) (fun _ s1 k => wpAny_mono k (fun _ s2 k => ?_) fun _ _ e => e) fun _ _ e => e))
  exact assignInOrder_cons (r_asAttr (wpAny_mono k (fun _ s3 k => wpAny_mono k (fun _ s4 k => assignInOrder_nil k) fun _ _ e => e) fun _ _ e => e))
end
theorem put_length {k : Nat → Int} {t : Nat → Tok} {a b c v : Value} {hs : Int} {kv : Value} {n : Nat} : (putL (Str.ofString "length") hs kv v (opE k t a b c), putN (Str.ofString "length") (opE k t a b c) n) = (opE k t v b c, n) := rfl
theorem put_level {k : Nat → Int} {t : Nat → Tok} {a b c v : Value} {hs : Int} {kv : Value} {n : Nat} : (putL (Str.ofString "level") hs kv v (opE k t a b c), putN (Str.ofString "level") (opE k t a b c) n) = (opE k t a v c, n) := rfl
theorem put_quoted {k : Nat → Int} {t : Nat → Tok} {a b c v : Value} {hs : Int} {kv : Value} {n : Nat} : (putL (Str.ofString "quoted") hs kv v (opE k t a b c), putN (Str.ofString "quoted") (opE k t a b c) n) = (opE k t a b v, n) := rfl
theorem put_car {k : Nat → Int} {t : Nat → Tok} {a b v : Value} {hs : Int} {kv : Value} {n : Nat} : (putL (Str.ofString "car") hs kv v (coE k t a b), putN (Str.ofString "car") (coE k t a b) n) = (coE k t v b, n) := rfl
theorem put_cdr {k : Nat → Int} {t : Nat → Tok} {a b v : Value} {hs : Int} {kv : Value} {n : Nat} : (putL (Str.ofString "cdr") hs kv v (coE k t a b), putN (Str.ofString "cdr") (coE k t a b) n) = (coE k t a v, n) := rfl
section
variable {prog : Program} {w : World} {A : Around} {E : Value → Shared → Prop} {h₀ h : Heap} {outer : List Env} {L a b : Addr} {m : Str → Option Value} {news : List (Addr × Obj)} {g : Array GenState} {d : Drawn} {t dn un : Nat} {os : OsState} {env : Env}
theorem r_neSame {xs ys : List Value} {ns : List Int} {i j : Nat} {Q : Value → Shared → Prop} (ha : Ar A env outer dn un) (hu : 64 ≤ un) (G : Lg h₀ L h m news) (h1 : (a, listOf xs.toArray i) ∈ news) (h2 : (b, listOf ys.toArray j) ∈ news) (hi : IntsAre xs ns) (hj : IntsAre ys ns)
    (k : Q (.bool false) ⟨h, g, d, t, os⟩) : wpAny (model prog w) A (compareOp .NotEq (.ref a) (.ref b)) Q E ⟨h, g, d, t, os⟩ := r_neInts ha hu G h1 h2 hi hj (by rw [decide_eq_true rfl]; exact k)
theorem r_eqSame {xs ys : List Value} {ns : List Int} {i j : Nat} {Q : Value → Shared → Prop} (ha : Ar A env outer dn un) (hu : 64 ≤ un) (G : Lg h₀ L h m news) (h1 : (a, listOf xs.toArray i) ∈ news) (h2 : (b, listOf ys.toArray j) ∈ news) (hi : IntsAre xs ns) (hj : IntsAre ys ns)
    (k : Q (.bool true) ⟨h, g, d, t, os⟩) : wpAny (model prog w) A (compareOp .Eq (.ref a) (.ref b)) Q E ⟨h, g, d, t, os⟩ := r_eqInts ha hu G h1 h2 hi hj (by rw [decide_eq_true rfl]; exact k)
end
theorem coE_ne {k k' : Nat → Int} {t t' : Nat → Tok} {a b a' b' : Value} {j j' : Nat} (h : a ≠ a') : dictOf (coE k t a b) j ≠ dictOf (coE k' t' a' b') j' := by
  intro e
  have e2 := congrArg Obj.data e
  simp [h] at e2
theorem inst_ne {C dx : Addr} {es : List DictEntry} {j : Nat} : instObj C dx ≠ dictOf es j := by
  intro e
  have e2 := congrArg Obj.cls e
  cases e2
theorem list_ne {vs : List Value} {n : Nat} {es : List DictEntry} {j : Nat} : listOf vs.toArray n ≠ dictOf es j := by
  intro e
  have e2 := congrArg Obj.cls e
  simp at e2
theorem veE_ne {k k' : Nat → Int} {t t' : Nat → Tok} {l : Addr} {a' b' : Value} {j j' : Nat} : dictOf (veE k t l) j ≠ dictOf (coE k' t' a' b') j' := by
  intro e
  have e2 := congrArg Obj.data e
  simp at e2
theorem ring_of_row {K : Frag} {rest L nw nw2 : List (Addr × Obj)} {ys : List Addr} {vs : List Value} {mm : Nat} (R : Row rest ys vs (.ref 77) L) (hm : vs.length = mm) (h1 : 1 ≤ mm) (h5 : mm ≤ 5) (hv : ∀ (i : Nat) (v : Value), vs[i]? = some v → ∃ u, v = Value.int (i : Int) u) (hsub : ∀ p ∈ L, p ∈ nw)
    {yl dxl : Addr} {kl : Nat → Int} {tl : Nat → Tok} {wl cl : Value} {jl : Nat} (hyl : ys[mm - 1]? = some yl) (al : vs[mm - 1]? = some wl) (bl : (yl, instObj 98 dxl) ∈ L) (U : Put dxl (dictOf (coE kl tl wl cl) jl) (dictOf (coE kl tl wl (.ref (ys.getD 0 0))) jl) nw nw2) : Ring K nw2 mm (fun j => ys.getD (j % mm) 0) := by
  have hyn := R.len
  have hgd : ∀ i, i < mm → ys[i]? = some (ys.getD i 0) := fun i hi => by
    rw [List.getD_eq_getElem?_getD, List.getElem?_eq_getElem (by k_extra "le")]; rfl
  refine ⟨fun j => ?_, fun i j h2 h3 => ?_, fun j => ?_⟩
  · have hj := Nat.mod_lt j (show 0 < mm by omega)
    obtain ⟨wi, ki, ti, dxi, ji, ai, bi, ci⟩ := R.cell (j % mm) _ (hgd _ hj)
    by_cases e : j % mm = mm - 1
    · obtain ⟨u, rfl⟩ := hv _ _ al
      have e0 : (j + 1) % mm = 0 := by
        rw [Nat.add_mod, e]
        rcases Nat.lt_or_ge 1 mm with q | q
        · rw [Nat.mod_eq_of_lt q, Nat.sub_add_cancel h1, Nat.mod_self]
        · rw [Nat.le_antisymm q h1]
      have ey : ys.getD (j % mm) 0 = yl := by
        have := hgd _ hj
        rw [e, hyl] at this
        rw [e]
        exact (Option.some.inj this).symm
      refine ⟨kl, tl, u, ?_⟩
      show InsIn K nw2 (ys.getD (j % mm) 0) 98 (coE kl tl (.int ((j % mm : Nat) : Int) u) (.ref (ys.getD ((j + 1) % mm) 0)))
      rw [ey, e0, e]
      exact .news (U.keep (hsub _ bl) inst_ne) U.here
    · obtain ⟨u, rfl⟩ := hv _ _ ai
      have e1 : (j + 1) % mm = j % mm + 1 := by
        rw [Nat.add_mod]
        have h7 : j % mm + 1 < mm := by omega
        rw [Nat.mod_eq_of_lt (Nat.lt_of_le_of_lt (Nat.le_add_left 1 _) h7), Nat.mod_eq_of_lt h7]
      refine ⟨ki, ti, u, ?_⟩
      show InsIn K nw2 (ys.getD (j % mm) 0) 98 (coE ki ti (.int ((j % mm : Nat) : Int) u) (.ref (ys.getD ((j + 1) % mm) 0)))
      rw [e1]
      rw [atv_some (hgd (j % mm + 1) (by k_extra "le"))] at ci
      refine .news (U.keep (hsub _ bi) inst_ne) (U.keep (hsub _ ci) (coE_ne ?_))
      obtain ⟨u', rfl⟩ := hv _ _ al
      intro q
      injection q with q1 q2
      omega
  · have hi := Nat.mod_lt i (show 0 < mm by omega)
    have hj := Nat.mod_lt j (show 0 < mm by omega)
    have hne : i % mm ≠ j % mm := by
      intro q
      have q1 := Nat.sub_mod_eq_zero_of_mod_eq q
      rw [Nat.mod_eq_of_lt (by omega)] at q1
      exact absurd q1 (Nat.ne_of_gt (Nat.sub_pos_of_lt h2))
    rcases Nat.lt_or_gt_of_ne hne with q | q
    · exact (cells_ne R.pw (hgd _ hj) (hgd _ hi) q).symm
    · exact cells_ne R.pw (hgd _ hi) (hgd _ hj) q
  · show ys.getD ((j + mm) % mm) 0 = _
    rw [Nat.add_mod_right]
theorem sp_printed_ring0 {w : World} {p : Program} {loose : List Str} {mean : ExcName → Option Value} {mg mb : Str → Option Value} {rest : List (Addr × Obj)} {oA tb y0 : Addr} {f : Nat → Addr} {m : Nat} {k2 : Nat → Int} {t2 : Nat → Tok} {lu lt : Tok} (R : Ring (fr.heap_1 w.params) rest m f) (e : f 0 = y0) (h1 : 1 ≤ m) (h5 : m ≤ 5) (hO : InsIn (fr.heap_1 w.params) rest oA 312 (opE k2 t2 (.int (-1) lu) (.int (-1) lt) (.bool true))) :
    SP w p loose mean mg mb (.ref 440) [.ref y0, .ref oA, .ref tb] 40 140 rest (fun r nw => ∃ cA vs n, r = .ref cA ∧ nw = (cA, listOf vs.toArray n) :: rest ∧ IntsAre vs (ringT m)) := by
  subst e
  exact sp_printed_ring R h1 h5 hO
theorem ringT_len {m : Nat} (h1 : 1 ≤ m) (h5 : m ≤ 5) : (ringT m).length ≤ 40 := by
  rw [rowR_T h1 h5]
  have := rowR_len m (2 * m - 1) 0
  simp; omega
theorem knot_of {K : Frag} {nwO nw9 : List (Addr × Obj)} {o0 o1 V l i0 i1 dxo dxp dV dxa dxb : Addr} {ko kp k5 ka kb : Nat → Int} {to tp t5 ta tb : Nat → Tok} {u1 u2 u3 : Tok} {jo jp jV nl ja jb : Nat}
    (m1 : (o0, instObj 98 dxo) ∈ nwO) (m2 : (dxo, dictOf (coE ko to (.int 3 u3) (.ref o1)) jo) ∈ nwO) (m3 : (o1, instObj 98 dxp) ∈ nwO) (m4 : (dxp, dictOf (coE kp tp (.ref V) (.ref 77)) jp) ∈ nwO) (m5 : (V, instObj 141 dV) ∈ nwO) (m6 : (dV, dictOf (veE k5 t5 l) jV) ∈ nwO) (m7 : (l, listOf [Value.ref i0].toArray nl) ∈ nwO)
    (m8 : (i0, instObj 98 dxa) ∈ nwO) (m9 : (i1, instObj 98 dxb) ∈ nwO) (m10 : (dxb, dictOf (coE kb tb (.int 2 u2) (.ref 77)) jb) ∈ nwO)
    (U : Put dxa (dictOf (coE ka ta (.int 1 u1) (.ref i1)) ja) (dictOf (coE ka ta (.ref o0) (.ref i1)) ja) nwO nw9) (n1 : o1 ≠ o0) (n2 : o0 ≠ V) (n3 : o0 ≠ i0) (n4 : V ≠ i0) (n5 : i1 ≠ i0) : Knot K nw9 o0 o1 V l i0 i1 :=
  ⟨⟨_, _, _, .news (U.keep m1 inst_ne) (U.keep m2 (coE_ne (by intro e; injection e with e1 e2; cases e1)))⟩, ⟨_, _, .news (U.keep m3 inst_ne) (U.keep m4 (coE_ne (by intro e; cases e)))⟩, ⟨_, _, .news (U.keep m5 inst_ne) (U.keep m6 veE_ne)⟩, ⟨_, U.keep m7 list_ne⟩,
   ⟨_, _, .news (U.keep m8 inst_ne) U.here⟩, ⟨_, _, _, .news (U.keep m9 inst_ne) (U.keep m10 (coE_ne (by intro e; injection e with e1 e2; cases e1)))⟩, n1, n2, n3, n4, n5⟩
theorem knot_codes : codesOf (Str.ofString "(3 [(#0 2)])") = knotT := by decide +kernel
end
section
variable {w : World} {p : Program} {loose : List Str} {mean : ExcName → Option Value} {mg mb : Str → Option Value} {rest : List (Addr × Obj)}
theorem law_walk {sa : Addr} {vs : List Value} {ns : List Int} (hi : IntsAre vs ns) (hz : vs.length ≤ 63) {f : Addr} {name qual : Str} {params : Arguments} {body : List Stmt} {scope : Scope} {dV kV doc pm cdv ct oc cd : Value} {an od : Option Addr} {osl : Array (Option Value)}
    (ho : (fr.heap_1 w.params).lookup 551 = some ⟨oc, od, .func (fnOf name qual params body scope dV kV doc pm an cdv ct), osl⟩) :
    ∀ (A : Around) (outer : List Env) (A₀ : Around) (base h₀ h : Heap) (L : Addr) (g : Array GenState) (d : Drawn) (t : Nat) (os : OsState), h₀.IsList sa vs.toArray → Ar A (envX qual scope L f cd []) outer 50 220 → Gr (fr.heap_1 w.params) p loose mean mg mb A₀ base outer h₀ → Lg h₀ L h (fun y => [(Str.ofString "script", Value.ref sa)].reverse.lookup y) [] →
      wpAny (model PySem.Challenge.rw_np0072_01.row.toRowW.prog w) A (execs body (envX qual scope L f cd [])) (Back h₀ L g d os (fun r _ => r = .bool true)) (fun _ _ => False) ⟨h, g, d, t, os⟩ := by
  k_fill
  refine' pick_fn (P := fun qual body scope => ∀ (A : Around) (outer : List Env) (A₀ : Around) (base h₀ h : Heap) (L : Addr) (g : Array GenState) (d : Drawn) (t : Nat) (os : OsState), h₀.IsList sa vs.toArray → Ar A (envX qual scope L f cd []) outer 50 220 → Gr (fr.heap_1 w.params) p loose mean mg mb A₀ base outer h₀ → Lg h₀ L h (fun y => [(Str.ofString "script", Value.ref sa)].reverse.lookup y) [] →
      wpAny (model PySem.Challenge.rw_np0072_01.row.toRowW.prog w) A (execs body (envX qual scope L f cd [])) (Back h₀ L g d os (fun r _ => r = .bool true)) (fun _ _ => False) ⟨h, g, d, t, os⟩) ?h1 ho ?k
  case h1 => k_is
  intro A outer A₀ base h₀ h L g d t os hsa hA X G
  refine wpAny_hide fun Q9 hQ => ?_
  (repeat' ((first | k_extra "w" | with_reducible refine Constant_bool ?_ | ((with_reducible refine' wpAny_Compare1 ?_ ?q9hm); (case q9hm => with_unfolding_all rfl)) | ((with_reducible refine' r_lc ?q9c ?q9k ?q9n ?q9s ?_); (case q9c | q9k => exact rfl); (case q9n => decide); (case q9s => (intro _; exact rfl))) | ((with_reducible refine' r_gL ?q9G ?q9n ?q9m ?q9v ?q9a ?q9b ?q9c ?_); (case q9G | q9n => assumption); (case q9m => k_extra "mem"); (case q9v => assumption); (case q9a | q9b => exact rfl); (case q9c => decide)) | ((with_reducible refine' r_gB ?q9G ?q9X ?q9e ?q9v ?q9n ?q9g ?q9gb ?q9a ?q9b ?q9c ?_); (case q9G | q9X => assumption); (case q9g | q9gb | q9a | q9b => exact rfl); (case q9e => k_is); (case q9v => boot_fast); (case q9n | q9c => decide)) | ((with_reducible refine' Assign_Tuple ?_ ?q9hs ?q9hw); (case q9hs | q9hw => exact rfl)) | ((with_reducible refine' Assign_Tuple_swapped ?_ ?q9hs ?q9hw); rotate_left; (case q9hs | q9hw => exact rfl)) | ((with_reducible refine' r_unpackI ?q9a ?q9G ?q9m ?q9n ?_); (case q9a | q9G => assumption); (case q9m => k_extra "mem"); (case q9n => exact rfl); intro _ _) | ((with_reducible show wpAny _ _ (PySem.assignInOrder (List.map _ _) _) _ _ _); refine' r_swap2 ?_) | ((with_reducible refine' r_cwK0 ?q9G ?q9X ?q9hk ?_); (case q9G | q9X => assumption); (case q9hk => k_is)) | (with_reducible refine' r_ord ?_ <;> intro _ _) | ((with_reducible refine' r_range1 ?q9G ?_); (case q9G => assumption); intro _ _ _ _ _ _) | (with_reducible refine' r_add ?_ <;> intro _ _) | (with_reducible refine' r_sub ?_ <;> intro _ _))))
  refine calH (by assumption) (sp_deck hi hz) hsa ?_
  rintro v nw h' t' ⟨dA, ds, nd, rfl, rfl, hdk⟩ G
  (repeat' ((first | k_extra "w" | with_reducible refine Constant_bool ?_ | ((with_reducible refine' wpAny_Compare1 ?_ ?q9hm); (case q9hm => with_unfolding_all rfl)) | ((with_reducible refine' r_lc ?q9c ?q9k ?q9n ?q9s ?_); (case q9c | q9k => exact rfl); (case q9n => decide); (case q9s => (intro _; exact rfl))) | ((with_reducible refine' r_gL ?q9G ?q9n ?q9m ?q9v ?q9a ?q9b ?q9c ?_); (case q9G | q9n => assumption); (case q9m => k_extra "mem"); (case q9v => assumption); (case q9a | q9b => exact rfl); (case q9c => decide)) | ((with_reducible refine' r_gB ?q9G ?q9X ?q9e ?q9v ?q9n ?q9g ?q9gb ?q9a ?q9b ?q9c ?_); (case q9G | q9X => assumption); (case q9g | q9gb | q9a | q9b => exact rfl); (case q9e => k_is); (case q9v => boot_fast); (case q9n | q9c => decide)) | ((with_reducible refine' Assign_Tuple ?_ ?q9hs ?q9hw); (case q9hs | q9hw => exact rfl)) | ((with_reducible refine' Assign_Tuple_swapped ?_ ?q9hs ?q9hw); rotate_left; (case q9hs | q9hw => exact rfl)) | ((with_reducible refine' r_unpackI ?q9a ?q9G ?q9m ?q9n ?_); (case q9a | q9G => assumption); (case q9m => k_extra "mem"); (case q9n => exact rfl); intro _ _) | ((with_reducible show wpAny _ _ (PySem.assignInOrder (List.map _ _) _) _ _ _); refine' r_swap2 ?_) | ((with_reducible refine' r_cwK0 ?q9G ?q9X ?q9hk ?_); (case q9G | q9X => assumption); (case q9hk => k_is)) | (with_reducible refine' r_ord ?_ <;> intro _ _) | ((with_reducible refine' r_range1 ?q9G ?_); (case q9G => assumption); intro _ _ _ _ _ _) | (with_reducible refine' r_add ?_ <;> intro _ _) | (with_reducible refine' r_sub ?_ <;> intro _ _))))
  refine cal (by assumption) new_obarray ?_
  rintro v nw h' t' ⟨tb, dT, j, es, rA, nA, oN, rfl, rfl, ⟨k0, t0, rfl⟩, hkd, htb, lowN⟩ G
  (repeat' ((first | k_extra "w" | with_reducible refine Constant_bool ?_ | ((with_reducible refine' wpAny_Compare1 ?_ ?q9hm); (case q9hm => with_unfolding_all rfl)) | ((with_reducible refine' r_lc ?q9c ?q9k ?q9n ?q9s ?_); (case q9c | q9k => exact rfl); (case q9n => decide); (case q9s => (intro _; exact rfl))) | ((with_reducible refine' r_gL ?q9G ?q9n ?q9m ?q9v ?q9a ?q9b ?q9c ?_); (case q9G | q9n => assumption); (case q9m => k_extra "mem"); (case q9v => assumption); (case q9a | q9b => exact rfl); (case q9c => decide)) | ((with_reducible refine' r_gB ?q9G ?q9X ?q9e ?q9v ?q9n ?q9g ?q9gb ?q9a ?q9b ?q9c ?_); (case q9G | q9X => assumption); (case q9g | q9gb | q9a | q9b => exact rfl); (case q9e => k_is); (case q9v => boot_fast); (case q9n | q9c => decide)) | ((with_reducible refine' Assign_Tuple ?_ ?q9hs ?q9hw); (case q9hs | q9hw => exact rfl)) | ((with_reducible refine' Assign_Tuple_swapped ?_ ?q9hs ?q9hw); rotate_left; (case q9hs | q9hw => exact rfl)) | ((with_reducible refine' r_unpackI ?q9a ?q9G ?q9m ?q9n ?_); (case q9a | q9G => assumption); (case q9m => k_extra "mem"); (case q9n => exact rfl); intro _ _) | ((with_reducible show wpAny _ _ (PySem.assignInOrder (List.map _ _) _) _ _ _); refine' r_swap2 ?_) | ((with_reducible refine' r_cwK0 ?q9G ?q9X ?q9hk ?_); (case q9G | q9X => assumption); (case q9hk => k_is)) | (with_reducible refine' r_ord ?_ <;> intro _ _) | ((with_reducible refine' r_range1 ?q9G ?_); (case q9G => assumption); intro _ _ _ _ _ _) | (with_reducible refine' r_add ?_ <;> intro _ _) | (with_reducible refine' r_sub ?_ <;> intro _ _))))
  rename_i r _ _ _ _ _
  refine r_forRange (n := 2) (fun i m nw => ∃ Lx ds rvs nd nr oN kvs, nw = DL dA rA nA ds rvs nd nr oN Lx ∧ Dk w Lx tb rA nA ds rvs oN kvs ((2 - i) * bud 4) ∧ m (Str.ofString "deck") = some (.ref dA) ∧ m (Str.ofString "table") = some (.ref tb)) (by assumption) rfl rfl
    (news := DL dA rA nA ds [Value.ref 77, Value.ref 80] nd 0 oN [(tb, instObj 513 dT), (dT, dictOf (obE k0 t0 rA nA) j), (r, rgObj 0 2 1 _ _ _)]) (Lg.sel (by assumption) (by k_extra "sel")) (by k_extra "mem") rfl rfl
    ⟨_, ds, _, nd, _, oN, _, rfl, ⟨hdk, ⟨k0, t0, .news (.head _) (.tail _ (.head _))⟩, hkd, tab_first, lowN, by decide, by decide⟩, rfl, rfl⟩ ?_ ?_
  · rintro I i h t m nw u oI hi2 ⟨Lx, ds, rvs, nd, nr, oN, kvs, rfl, D, m1, m2⟩ G
    refine wpAny_hide fun Q8 hT => ?_
    have hb : (2 - i) * bud 4 = bud 4 + (2 - (i + 1)) * bud 4 := by
      have e : 2 - i = (2 - (i + 1)) + 1 := by omega
      rw [e, Nat.succ_mul]; omega
    rw [hb] at D
    (repeat' ((first | k_extra "w" | with_reducible refine Constant_bool ?_ | ((with_reducible refine' wpAny_Compare1 ?_ ?q9hm); (case q9hm => with_unfolding_all rfl)) | ((with_reducible refine' r_lc ?q9c ?q9k ?q9n ?q9s ?_); (case q9c | q9k => exact rfl); (case q9n => decide); (case q9s => (intro _; exact rfl))) | ((with_reducible refine' r_gL ?q9G ?q9n ?q9m ?q9v ?q9a ?q9b ?q9c ?_); (case q9G | q9n => assumption); (case q9m => k_extra "mem"); (case q9v => assumption); (case q9a | q9b => exact rfl); (case q9c => decide)) | ((with_reducible refine' r_gB ?q9G ?q9X ?q9e ?q9v ?q9n ?q9g ?q9gb ?q9a ?q9b ?q9c ?_); (case q9G | q9X => assumption); (case q9g | q9gb | q9a | q9b => exact rfl); (case q9e => k_is); (case q9v => boot_fast); (case q9n | q9c => decide)) | ((with_reducible refine' Assign_Tuple ?_ ?q9hs ?q9hw); (case q9hs | q9hw => exact rfl)) | ((with_reducible refine' Assign_Tuple_swapped ?_ ?q9hs ?q9hw); rotate_left; (case q9hs | q9hw => exact rfl)) | ((with_reducible refine' r_unpackI ?q9a ?q9G ?q9m ?q9n ?_); (case q9a | q9G => assumption); (case q9m => k_extra "mem"); (case q9n => exact rfl); intro _ _) | ((with_reducible show wpAny _ _ (PySem.assignInOrder (List.map _ _) _) _ _ _); refine' r_swap2 ?_) | ((with_reducible refine' r_cwK0 ?q9G ?q9X ?q9hk ?_); (case q9G | q9X => assumption); (case q9hk => k_is)) | (with_reducible refine' r_ord ?_ <;> intro _ _) | ((with_reducible refine' r_range1 ?q9G ?_); (case q9G => assumption); intro _ _ _ _ _ _) | (with_reducible refine' r_add ?_ <;> intro _ _) | (with_reducible refine' r_sub ?_ <;> intro _ _))))
    refine cal (news := DL dA rA nA ds rvs nd nr oN ((I, oI) :: Lx)) (Lg.sel (by assumption) (by k_extra "sel")) (made_four ((I, oI) :: Lx) Lx dA tb rA nA ds rvs nd nr oN kvs _ _ (fun p hp => .tail _ hp) D) ?_
    rintro dv nw h' t' ⟨L1, ds1, rvs1, nd1, nr1, oN1, kvs1, dd, bb, rfl, D1, R1, ok1⟩ G
    (repeat' ((first | k_extra "w" | with_reducible refine Constant_bool ?_ | ((with_reducible refine' wpAny_Compare1 ?_ ?q9hm); (case q9hm => with_unfolding_all rfl)) | ((with_reducible refine' r_lc ?q9c ?q9k ?q9n ?q9s ?_); (case q9c | q9k => exact rfl); (case q9n => decide); (case q9s => (intro _; exact rfl))) | ((with_reducible refine' r_gL ?q9G ?q9n ?q9m ?q9v ?q9a ?q9b ?q9c ?_); (case q9G | q9n => assumption); (case q9m => k_extra "mem"); (case q9v => assumption); (case q9a | q9b => exact rfl); (case q9c => decide)) | ((with_reducible refine' r_gB ?q9G ?q9X ?q9e ?q9v ?q9n ?q9g ?q9gb ?q9a ?q9b ?q9c ?_); (case q9G | q9X => assumption); (case q9g | q9gb | q9a | q9b => exact rfl); (case q9e => k_is); (case q9v => boot_fast); (case q9n | q9c => decide)) | ((with_reducible refine' Assign_Tuple ?_ ?q9hs ?q9hw); (case q9hs | q9hw => exact rfl)) | ((with_reducible refine' Assign_Tuple_swapped ?_ ?q9hs ?q9hw); rotate_left; (case q9hs | q9hw => exact rfl)) | ((with_reducible refine' r_unpackI ?q9a ?q9G ?q9m ?q9n ?_); (case q9a | q9G => assumption); (case q9m => k_extra "mem"); (case q9n => exact rfl); intro _ _) | ((with_reducible show wpAny _ _ (PySem.assignInOrder (List.map _ _) _) _ _ _); refine' r_swap2 ?_) | ((with_reducible refine' r_cwK0 ?q9G ?q9X ?q9hk ?_); (case q9G | q9X => assumption); (case q9hk => k_is)) | (with_reducible refine' r_ord ?_ <;> intro _ _) | ((with_reducible refine' r_range1 ?q9G ?_); (case q9G => assumption); intro _ _ _ _ _ _) | (with_reducible refine' r_add ?_ <;> intro _ _) | (with_reducible refine' r_sub ?_ <;> intro _ _))))
    refine cal (by assumption) new_opt ?_
    rintro v nw h' t' ⟨oA, dO, es, jO, uO, vO, rfl, rfl, ⟨k5, t5, rfl⟩, hoA⟩ G
    (repeat' ((first | k_extra "w" | with_reducible refine Constant_bool ?_ | ((with_reducible refine' wpAny_Compare1 ?_ ?q9hm); (case q9hm => with_unfolding_all rfl)) | ((with_reducible refine' r_lc ?q9c ?q9k ?q9n ?q9s ?_); (case q9c | q9k => exact rfl); (case q9n => decide); (case q9s => (intro _; exact rfl))) | ((with_reducible refine' r_gL ?q9G ?q9n ?q9m ?q9v ?q9a ?q9b ?q9c ?_); (case q9G | q9n => assumption); (case q9m => k_extra "mem"); (case q9v => assumption); (case q9a | q9b => exact rfl); (case q9c => decide)) | ((with_reducible refine' r_gB ?q9G ?q9X ?q9e ?q9v ?q9n ?q9g ?q9gb ?q9a ?q9b ?q9c ?_); (case q9G | q9X => assumption); (case q9g | q9gb | q9a | q9b => exact rfl); (case q9e => k_is); (case q9v => boot_fast); (case q9n | q9c => decide)) | ((with_reducible refine' Assign_Tuple ?_ ?q9hs ?q9hw); (case q9hs | q9hw => exact rfl)) | ((with_reducible refine' Assign_Tuple_swapped ?_ ?q9hs ?q9hw); rotate_left; (case q9hs | q9hw => exact rfl)) | ((with_reducible refine' r_unpackI ?q9a ?q9G ?q9m ?q9n ?_); (case q9a | q9G => assumption); (case q9m => k_extra "mem"); (case q9n => exact rfl); intro _ _) | ((with_reducible show wpAny _ _ (PySem.assignInOrder (List.map _ _) _) _ _ _); refine' r_swap2 ?_) | ((with_reducible refine' r_cwK0 ?q9G ?q9X ?q9hk ?_); (case q9G | q9X => assumption); (case q9hk => k_is)) | (with_reducible refine' r_ord ?_ <;> intro _ _) | ((with_reducible refine' r_range1 ?q9G ?_); (case q9G => assumption); intro _ _ _ _ _ _) | (with_reducible refine' r_add ?_ <;> intro _ _) | (with_reducible refine' r_sub ?_ <;> intro _ _))))
    refine cal (news := (dA, listOf ds1.toArray nd1) :: (rA, listOf rvs1.toArray nr1) :: (nA, oN1) :: (oA, instObj 312 dO) :: (dO, dictOf (opE k5 t5 (.int (-1) uO) (.int (-1) vO) (.bool true)) jO) :: (L1 ++ (I, oI) :: Lx)) (Lg.sel (by assumption) (by k_extra "sel")) (sp_draw (by decide) (by decide) D1.deck) ?_
    rintro v nw h' t' ⟨c1, uc1, rfl, hc1, hd1, ds2, nd2, rfl, D2⟩ G
    (repeat' ((first | k_extra "w" | with_reducible refine Constant_bool ?_ | ((with_reducible refine' wpAny_Compare1 ?_ ?q9hm); (case q9hm => with_unfolding_all rfl)) | ((with_reducible refine' r_lc ?q9c ?q9k ?q9n ?q9s ?_); (case q9c | q9k => exact rfl); (case q9n => decide); (case q9s => (intro _; exact rfl))) | ((with_reducible refine' r_gL ?q9G ?q9n ?q9m ?q9v ?q9a ?q9b ?q9c ?_); (case q9G | q9n => assumption); (case q9m => k_extra "mem"); (case q9v => assumption); (case q9a | q9b => exact rfl); (case q9c => decide)) | ((with_reducible refine' r_gB ?q9G ?q9X ?q9e ?q9v ?q9n ?q9g ?q9gb ?q9a ?q9b ?q9c ?_); (case q9G | q9X => assumption); (case q9g | q9gb | q9a | q9b => exact rfl); (case q9e => k_is); (case q9v => boot_fast); (case q9n | q9c => decide)) | ((with_reducible refine' Assign_Tuple ?_ ?q9hs ?q9hw); (case q9hs | q9hw => exact rfl)) | ((with_reducible refine' Assign_Tuple_swapped ?_ ?q9hs ?q9hw); rotate_left; (case q9hs | q9hw => exact rfl)) | ((with_reducible refine' r_unpackI ?q9a ?q9G ?q9m ?q9n ?_); (case q9a | q9G => assumption); (case q9m => k_extra "mem"); (case q9n => exact rfl); intro _ _) | ((with_reducible show wpAny _ _ (PySem.assignInOrder (List.map _ _) _) _ _ _); refine' r_swap2 ?_) | ((with_reducible refine' r_cwK0 ?q9G ?q9X ?q9hk ?_); (case q9G | q9X => assumption); (case q9hk => k_is)) | (with_reducible refine' r_ord ?_ <;> intro _ _) | ((with_reducible refine' r_range1 ?q9G ?_); (case q9G => assumption); intro _ _ _ _ _ _) | (with_reducible refine' r_add ?_ <;> intro _ _) | (with_reducible refine' r_sub ?_ <;> intro _ _))))
    refine cal (by assumption) (sp_draw (by decide) (by decide) D2) ?_
    rintro v nw h' t' ⟨c2, uc2, rfl, hc2, hd2, ds3, nd3, rfl, D3⟩ G
    (repeat' ((first | k_extra "w" | with_reducible refine Constant_bool ?_ | ((with_reducible refine' wpAny_Compare1 ?_ ?q9hm); (case q9hm => with_unfolding_all rfl)) | ((with_reducible refine' r_lc ?q9c ?q9k ?q9n ?q9s ?_); (case q9c | q9k => exact rfl); (case q9n => decide); (case q9s => (intro _; exact rfl))) | ((with_reducible refine' r_gL ?q9G ?q9n ?q9m ?q9v ?q9a ?q9b ?q9c ?_); (case q9G | q9n => assumption); (case q9m => k_extra "mem"); (case q9v => assumption); (case q9a | q9b => exact rfl); (case q9c => decide)) | ((with_reducible refine' r_gB ?q9G ?q9X ?q9e ?q9v ?q9n ?q9g ?q9gb ?q9a ?q9b ?q9c ?_); (case q9G | q9X => assumption); (case q9g | q9gb | q9a | q9b => exact rfl); (case q9e => k_is); (case q9v => boot_fast); (case q9n | q9c => decide)) | ((with_reducible refine' Assign_Tuple ?_ ?q9hs ?q9hw); (case q9hs | q9hw => exact rfl)) | ((with_reducible refine' Assign_Tuple_swapped ?_ ?q9hs ?q9hw); rotate_left; (case q9hs | q9hw => exact rfl)) | ((with_reducible refine' r_unpackI ?q9a ?q9G ?q9m ?q9n ?_); (case q9a | q9G => assumption); (case q9m => k_extra "mem"); (case q9n => exact rfl); intro _ _) | ((with_reducible show wpAny _ _ (PySem.assignInOrder (List.map _ _) _) _ _ _); refine' r_swap2 ?_) | ((with_reducible refine' r_cwK0 ?q9G ?q9X ?q9hk ?_); (case q9G | q9X => assumption); (case q9hk => k_is)) | (with_reducible refine' r_ord ?_ <;> intro _ _) | ((with_reducible refine' r_range1 ?q9G ?_); (case q9G => assumption); intro _ _ _ _ _ _) | (with_reducible refine' r_add ?_ <;> intro _ _) | (with_reducible refine' r_sub ?_ <;> intro _ _))))
    refine r_unpA2 (by assumption) (by assumption) (.head _) fun h' G => ?_
    (repeat' ((first | k_extra "w" | with_reducible refine Constant_bool ?_ | ((with_reducible refine' wpAny_Compare1 ?_ ?q9hm); (case q9hm => with_unfolding_all rfl)) | ((with_reducible refine' r_lc ?q9c ?q9k ?q9n ?q9s ?_); (case q9c | q9k => exact rfl); (case q9n => decide); (case q9s => (intro _; exact rfl))) | ((with_reducible refine' r_gL ?q9G ?q9n ?q9m ?q9v ?q9a ?q9b ?q9c ?_); (case q9G | q9n => assumption); (case q9m => k_extra "mem"); (case q9v => assumption); (case q9a | q9b => exact rfl); (case q9c => decide)) | ((with_reducible refine' r_gB ?q9G ?q9X ?q9e ?q9v ?q9n ?q9g ?q9gb ?q9a ?q9b ?q9c ?_); (case q9G | q9X => assumption); (case q9g | q9gb | q9a | q9b => exact rfl); (case q9e => k_is); (case q9v => boot_fast); (case q9n | q9c => decide)) | ((with_reducible refine' Assign_Tuple ?_ ?q9hs ?q9hw); (case q9hs | q9hw => exact rfl)) | ((with_reducible refine' Assign_Tuple_swapped ?_ ?q9hs ?q9hw); rotate_left; (case q9hs | q9hw => exact rfl)) | ((with_reducible refine' r_unpackI ?q9a ?q9G ?q9m ?q9n ?_); (case q9a | q9G => assumption); (case q9m => k_extra "mem"); (case q9n => exact rfl); intro _ _) | ((with_reducible show wpAny _ _ (PySem.assignInOrder (List.map _ _) _) _ _ _); refine' r_swap2 ?_) | ((with_reducible refine' r_cwK0 ?q9G ?q9X ?q9hk ?_); (case q9G | q9X => assumption); (case q9hk => k_is)) | (with_reducible refine' r_ord ?_ <;> intro _ _) | ((with_reducible refine' r_range1 ?q9G ?_); (case q9G => assumption); intro _ _ _ _ _ _) | (with_reducible refine' r_add ?_ <;> intro _ _) | (with_reducible refine' r_sub ?_ <;> intro _ _))))
    refine' r_setattr ?G ?X ?hx ?ok ?l put_length ?U ?z ?_
    case G => assumption
    case X => assumption
    case hx => k_extra "mem"
    case U => k_extra "put"
    case ok => k_extra "sok"
    case l => exact rfl
    case z => exact Nat.le_of_ble_eq_true rfl
    intro h' t' G
    (repeat' ((first | k_extra "w" | with_reducible refine Constant_bool ?_ | ((with_reducible refine' wpAny_Compare1 ?_ ?q9hm); (case q9hm => with_unfolding_all rfl)) | ((with_reducible refine' r_lc ?q9c ?q9k ?q9n ?q9s ?_); (case q9c | q9k => exact rfl); (case q9n => decide); (case q9s => (intro _; exact rfl))) | ((with_reducible refine' r_gL ?q9G ?q9n ?q9m ?q9v ?q9a ?q9b ?q9c ?_); (case q9G | q9n => assumption); (case q9m => k_extra "mem"); (case q9v => assumption); (case q9a | q9b => exact rfl); (case q9c => decide)) | ((with_reducible refine' r_gB ?q9G ?q9X ?q9e ?q9v ?q9n ?q9g ?q9gb ?q9a ?q9b ?q9c ?_); (case q9G | q9X => assumption); (case q9g | q9gb | q9a | q9b => exact rfl); (case q9e => k_is); (case q9v => boot_fast); (case q9n | q9c => decide)) | ((with_reducible refine' Assign_Tuple ?_ ?q9hs ?q9hw); (case q9hs | q9hw => exact rfl)) | ((with_reducible refine' Assign_Tuple_swapped ?_ ?q9hs ?q9hw); rotate_left; (case q9hs | q9hw => exact rfl)) | ((with_reducible refine' r_unpackI ?q9a ?q9G ?q9m ?q9n ?_); (case q9a | q9G => assumption); (case q9m => k_extra "mem"); (case q9n => exact rfl); intro _ _) | ((with_reducible show wpAny _ _ (PySem.assignInOrder (List.map _ _) _) _ _ _); refine' r_swap2 ?_) | ((with_reducible refine' r_cwK0 ?q9G ?q9X ?q9hk ?_); (case q9G | q9X => assumption); (case q9hk => k_is)) | (with_reducible refine' r_ord ?_ <;> intro _ _) | ((with_reducible refine' r_range1 ?q9G ?_); (case q9G => assumption); intro _ _ _ _ _ _) | (with_reducible refine' r_add ?_ <;> intro _ _) | (with_reducible refine' r_sub ?_ <;> intro _ _))))
    refine' r_setattr ?G ?X ?hx ?ok ?l put_level ?U ?z ?_
    case G => assumption
    case X => assumption
    case hx => k_extra "mem"
    case U => k_extra "put"
    case ok => k_extra "sok"
    case l => exact rfl
    case z => exact Nat.le_of_ble_eq_true rfl
    intro h' t' G
    (repeat' ((first | k_extra "w" | with_reducible refine Constant_bool ?_ | ((with_reducible refine' wpAny_Compare1 ?_ ?q9hm); (case q9hm => with_unfolding_all rfl)) | ((with_reducible refine' r_lc ?q9c ?q9k ?q9n ?q9s ?_); (case q9c | q9k => exact rfl); (case q9n => decide); (case q9s => (intro _; exact rfl))) | ((with_reducible refine' r_gL ?q9G ?q9n ?q9m ?q9v ?q9a ?q9b ?q9c ?_); (case q9G | q9n => assumption); (case q9m => k_extra "mem"); (case q9v => assumption); (case q9a | q9b => exact rfl); (case q9c => decide)) | ((with_reducible refine' r_gB ?q9G ?q9X ?q9e ?q9v ?q9n ?q9g ?q9gb ?q9a ?q9b ?q9c ?_); (case q9G | q9X => assumption); (case q9g | q9gb | q9a | q9b => exact rfl); (case q9e => k_is); (case q9v => boot_fast); (case q9n | q9c => decide)) | ((with_reducible refine' Assign_Tuple ?_ ?q9hs ?q9hw); (case q9hs | q9hw => exact rfl)) | ((with_reducible refine' Assign_Tuple_swapped ?_ ?q9hs ?q9hw); rotate_left; (case q9hs | q9hw => exact rfl)) | ((with_reducible refine' r_unpackI ?q9a ?q9G ?q9m ?q9n ?_); (case q9a | q9G => assumption); (case q9m => k_extra "mem"); (case q9n => exact rfl); intro _ _) | ((with_reducible show wpAny _ _ (PySem.assignInOrder (List.map _ _) _) _ _ _); refine' r_swap2 ?_) | ((with_reducible refine' r_cwK0 ?q9G ?q9X ?q9hk ?_); (case q9G | q9X => assumption); (case q9hk => k_is)) | (with_reducible refine' r_ord ?_ <;> intro _ _) | ((with_reducible refine' r_range1 ?q9G ?_); (case q9G => assumption); intro _ _ _ _ _ _) | (with_reducible refine' r_add ?_ <;> intro _ _) | (with_reducible refine' r_sub ?_ <;> intro _ _))))
    refine cal (Lg.pull (by assumption) (by k_extra "pull")) (sp_draw (by decide) (by decide) D3) ?_
    rintro v nw h' t' ⟨c3, uc3, rfl, hc3, hd3, ds4, nd4, rfl, D4⟩ G
    (repeat' ((first | k_extra "w" | with_reducible refine Constant_bool ?_ | ((with_reducible refine' wpAny_Compare1 ?_ ?q9hm); (case q9hm => with_unfolding_all rfl)) | ((with_reducible refine' r_lc ?q9c ?q9k ?q9n ?q9s ?_); (case q9c | q9k => exact rfl); (case q9n => decide); (case q9s => (intro _; exact rfl))) | ((with_reducible refine' r_gL ?q9G ?q9n ?q9m ?q9v ?q9a ?q9b ?q9c ?_); (case q9G | q9n => assumption); (case q9m => k_extra "mem"); (case q9v => assumption); (case q9a | q9b => exact rfl); (case q9c => decide)) | ((with_reducible refine' r_gB ?q9G ?q9X ?q9e ?q9v ?q9n ?q9g ?q9gb ?q9a ?q9b ?q9c ?_); (case q9G | q9X => assumption); (case q9g | q9gb | q9a | q9b => exact rfl); (case q9e => k_is); (case q9v => boot_fast); (case q9n | q9c => decide)) | ((with_reducible refine' Assign_Tuple ?_ ?q9hs ?q9hw); (case q9hs | q9hw => exact rfl)) | ((with_reducible refine' Assign_Tuple_swapped ?_ ?q9hs ?q9hw); rotate_left; (case q9hs | q9hw => exact rfl)) | ((with_reducible refine' r_unpackI ?q9a ?q9G ?q9m ?q9n ?_); (case q9a | q9G => assumption); (case q9m => k_extra "mem"); (case q9n => exact rfl); intro _ _) | ((with_reducible show wpAny _ _ (PySem.assignInOrder (List.map _ _) _) _ _ _); refine' r_swap2 ?_) | ((with_reducible refine' r_cwK0 ?q9G ?q9X ?q9hk ?_); (case q9G | q9X => assumption); (case q9hk => k_is)) | (with_reducible refine' r_ord ?_ <;> intro _ _) | ((with_reducible refine' r_range1 ?q9G ?_); (case q9G => assumption); intro _ _ _ _ _ _) | (with_reducible refine' r_add ?_ <;> intro _ _) | (with_reducible refine' r_sub ?_ <;> intro _ _))))
    refine' r_setattr ?G ?X ?hx ?ok ?l put_quoted ?U ?z ?_
    case G => assumption
    case X => assumption
    case hx => k_extra "mem"
    case U => k_extra "put"
    case ok => k_extra "sok"
    case l => exact rfl
    case z => exact Nat.le_of_ble_eq_true rfl
    intro h' t' G
    (repeat' ((first | k_extra "w" | with_reducible refine Constant_bool ?_ | ((with_reducible refine' wpAny_Compare1 ?_ ?q9hm); (case q9hm => with_unfolding_all rfl)) | ((with_reducible refine' r_lc ?q9c ?q9k ?q9n ?q9s ?_); (case q9c | q9k => exact rfl); (case q9n => decide); (case q9s => (intro _; exact rfl))) | ((with_reducible refine' r_gL ?q9G ?q9n ?q9m ?q9v ?q9a ?q9b ?q9c ?_); (case q9G | q9n => assumption); (case q9m => k_extra "mem"); (case q9v => assumption); (case q9a | q9b => exact rfl); (case q9c => decide)) | ((with_reducible refine' r_gB ?q9G ?q9X ?q9e ?q9v ?q9n ?q9g ?q9gb ?q9a ?q9b ?q9c ?_); (case q9G | q9X => assumption); (case q9g | q9gb | q9a | q9b => exact rfl); (case q9e => k_is); (case q9v => boot_fast); (case q9n | q9c => decide)) | ((with_reducible refine' Assign_Tuple ?_ ?q9hs ?q9hw); (case q9hs | q9hw => exact rfl)) | ((with_reducible refine' Assign_Tuple_swapped ?_ ?q9hs ?q9hw); rotate_left; (case q9hs | q9hw => exact rfl)) | ((with_reducible refine' r_unpackI ?q9a ?q9G ?q9m ?q9n ?_); (case q9a | q9G => assumption); (case q9m => k_extra "mem"); (case q9n => exact rfl); intro _ _) | ((with_reducible show wpAny _ _ (PySem.assignInOrder (List.map _ _) _) _ _ _); refine' r_swap2 ?_) | ((with_reducible refine' r_cwK0 ?q9G ?q9X ?q9hk ?_); (case q9G | q9X => assumption); (case q9hk => k_is)) | (with_reducible refine' r_ord ?_ <;> intro _ _) | ((with_reducible refine' r_range1 ?q9G ?_); (case q9G => assumption); intro _ _ _ _ _ _) | (with_reducible refine' r_add ?_ <;> intro _ _) | (with_reducible refine' r_sub ?_ <;> intro _ _))))
    have sub1 : ∀ p ∈ L1 ++ Lx, p ∈ L1 ++ (I, oI) :: Lx := fun p hp => (List.mem_append.mp hp).elim (List.mem_append_left _) fun h => List.mem_append_right _ (.tail _ h)
    have R2 := R1.mono sub1
    have htl := txt_len (c1 - 1) (c2 - 1) (c3 == 0) 4 dd 0 ok1
    have ht4 : tbd 4 ≤ 100000 := by decide
    have hsl := sizeLine_eq
    refine cal (by assumption) (text_four _ dd bb dv (c1 - 1) (c2 - 1) 0 _ _ _ (c3 == 0) (R2.mono (by k_extra "sub")) ok1) ?_
    rintro v nw h' t' ⟨y, uy, rfl, rfl, hy⟩ G
    (repeat' ((first | k_extra "w" | with_reducible refine Constant_bool ?_ | ((with_reducible refine' wpAny_Compare1 ?_ ?q9hm); (case q9hm => with_unfolding_all rfl)) | ((with_reducible refine' r_lc ?q9c ?q9k ?q9n ?q9s ?_); (case q9c | q9k => exact rfl); (case q9n => decide); (case q9s => (intro _; exact rfl))) | ((with_reducible refine' r_gL ?q9G ?q9n ?q9m ?q9v ?q9a ?q9b ?q9c ?_); (case q9G | q9n => assumption); (case q9m => k_extra "mem"); (case q9v => assumption); (case q9a | q9b => exact rfl); (case q9c => decide)) | ((with_reducible refine' r_gB ?q9G ?q9X ?q9e ?q9v ?q9n ?q9g ?q9gb ?q9a ?q9b ?q9c ?_); (case q9G | q9X => assumption); (case q9g | q9gb | q9a | q9b => exact rfl); (case q9e => k_is); (case q9v => boot_fast); (case q9n | q9c => decide)) | ((with_reducible refine' Assign_Tuple ?_ ?q9hs ?q9hw); (case q9hs | q9hw => exact rfl)) | ((with_reducible refine' Assign_Tuple_swapped ?_ ?q9hs ?q9hw); rotate_left; (case q9hs | q9hw => exact rfl)) | ((with_reducible refine' r_unpackI ?q9a ?q9G ?q9m ?q9n ?_); (case q9a | q9G => assumption); (case q9m => k_extra "mem"); (case q9n => exact rfl); intro _ _) | ((with_reducible show wpAny _ _ (PySem.assignInOrder (List.map _ _) _) _ _ _); refine' r_swap2 ?_) | ((with_reducible refine' r_cwK0 ?q9G ?q9X ?q9hk ?_); (case q9G | q9X => assumption); (case q9hk => k_is)) | (with_reducible refine' r_ord ?_ <;> intro _ _) | ((with_reducible refine' r_range1 ?q9G ?_); (case q9G => assumption); intro _ _ _ _ _ _) | (with_reducible refine' r_add ?_ <;> intro _ _) | (with_reducible refine' r_sub ?_ <;> intro _ _))))
    refine cal (by assumption) (sp_printed_tree (R2.mono (by k_extra "sub")) ok1 (.news (by k_extra "mem") (by k_extra "mem")) (by k_extra "le")) ?_
    rintro v nw h' t' ⟨cA, pv, pn, rfl, hnw, hpv⟩ G
    (repeat' ((first | k_extra "w" | with_reducible refine Constant_bool ?_ | ((with_reducible refine' wpAny_Compare1 ?_ ?q9hm); (case q9hm => with_unfolding_all rfl)) | ((with_reducible refine' r_lc ?q9c ?q9k ?q9n ?q9s ?_); (case q9c | q9k => exact rfl); (case q9n => decide); (case q9s => (intro _; exact rfl))) | ((with_reducible refine' r_gL ?q9G ?q9n ?q9m ?q9v ?q9a ?q9b ?q9c ?_); (case q9G | q9n => assumption); (case q9m => k_extra "mem"); (case q9v => assumption); (case q9a | q9b => exact rfl); (case q9c => decide)) | ((with_reducible refine' r_gB ?q9G ?q9X ?q9e ?q9v ?q9n ?q9g ?q9gb ?q9a ?q9b ?q9c ?_); (case q9G | q9X => assumption); (case q9g | q9gb | q9a | q9b => exact rfl); (case q9e => k_is); (case q9v => boot_fast); (case q9n | q9c => decide)) | ((with_reducible refine' Assign_Tuple ?_ ?q9hs ?q9hw); (case q9hs | q9hw => exact rfl)) | ((with_reducible refine' Assign_Tuple_swapped ?_ ?q9hs ?q9hw); rotate_left; (case q9hs | q9hw => exact rfl)) | ((with_reducible refine' r_unpackI ?q9a ?q9G ?q9m ?q9n ?_); (case q9a | q9G => assumption); (case q9m => k_extra "mem"); (case q9n => exact rfl); intro _ _) | ((with_reducible show wpAny _ _ (PySem.assignInOrder (List.map _ _) _) _ _ _); refine' r_swap2 ?_) | ((with_reducible refine' r_cwK0 ?q9G ?q9X ?q9hk ?_); (case q9G | q9X => assumption); (case q9hk => k_is)) | (with_reducible refine' r_ord ?_ <;> intro _ _) | ((with_reducible refine' r_range1 ?q9G ?_); (case q9G => assumption); intro _ _ _ _ _ _) | (with_reducible refine' r_add ?_ <;> intro _ _) | (with_reducible refine' r_sub ?_ <;> intro _ _))))
    refine cmp_str (fun i ys nw' => nw' = nw ∧ IntsAre ys ((y.cps.toList.take i).map Int.ofNat)) (by decide) rfl rfl (Ar.hd (by assumption)) (by assumption) (by have:=codesOf_len y;rw[hy]at this;have e2:y.length=y.cps.size:=rfl;omega) ⟨rfl, .nil⟩ ?_ (endK_none ?_)
    · rintro i v ys nw' I oI C oC D m₂ h t hi ⟨c, u, hc, rfl⟩ ⟨rfl, hj⟩ hn hm G
      (repeat' ((first | k_extra "w" | with_reducible refine Constant_bool ?_ | ((with_reducible refine' wpAny_Compare1 ?_ ?q9hm); (case q9hm => with_unfolding_all rfl)) | ((with_reducible refine' r_lc ?q9c ?q9k ?q9n ?q9s ?_); (case q9c | q9k => exact rfl); (case q9n => decide); (case q9s => (intro _; exact rfl))) | ((with_reducible refine' r_gL ?q9G ?q9n ?q9m ?q9v ?q9a ?q9b ?q9c ?_); (case q9G | q9n => assumption); (case q9m => k_extra "mem"); (case q9v => assumption); (case q9a | q9b => exact rfl); (case q9c => decide)) | ((with_reducible refine' r_gB ?q9G ?q9X ?q9e ?q9v ?q9n ?q9g ?q9gb ?q9a ?q9b ?q9c ?_); (case q9G | q9X => assumption); (case q9g | q9gb | q9a | q9b => exact rfl); (case q9e => k_is); (case q9v => boot_fast); (case q9n | q9c => decide)) | ((with_reducible refine' Assign_Tuple ?_ ?q9hs ?q9hw); (case q9hs | q9hw => exact rfl)) | ((with_reducible refine' Assign_Tuple_swapped ?_ ?q9hs ?q9hw); rotate_left; (case q9hs | q9hw => exact rfl)) | ((with_reducible refine' r_unpackI ?q9a ?q9G ?q9m ?q9n ?_); (case q9a | q9G => assumption); (case q9m => k_extra "mem"); (case q9n => exact rfl); intro _ _) | ((with_reducible show wpAny _ _ (PySem.assignInOrder (List.map _ _) _) _ _ _); refine' r_swap2 ?_) | ((with_reducible refine' r_cwK0 ?q9G ?q9X ?q9hk ?_); (case q9G | q9X => assumption); (case q9hk => k_is)) | (with_reducible refine' r_ord ?_ <;> intro _ _) | ((with_reducible refine' r_range1 ?q9G ?_); (case q9G => assumption); intro _ _ _ _ _ _) | (with_reducible refine' r_add ?_ <;> intro _ _) | (with_reducible refine' r_sub ?_ <;> intro _ _))))
      refine ⟨_, _, _, rfl, by assumption, rfl, ?_⟩
      have hc' : (y.cps.toList)[i]? = some c := by simpa using hc
      rw [List.take_add_one, hc', List.map_append]
      exact ints_snoc hj _ _
    rintro D2 h' t' ys nw' G ⟨rfl, hj⟩
    rw [List.take_of_length_le (by simp)] at hj
    have hj : IntsAre ys (codesOf y) := hj
    rw [hy] at hj
    refine r_neSame (by assumption) (by decide) (by assumption) (.tail _ (by rw [hnw]; exact .head _)) (.head _) hpv hj ?_
    (repeat' ((first | k_extra "w" | with_reducible refine Constant_bool ?_ | ((with_reducible refine' wpAny_Compare1 ?_ ?q9hm); (case q9hm => with_unfolding_all rfl)) | ((with_reducible refine' r_lc ?q9c ?q9k ?q9n ?q9s ?_); (case q9c | q9k => exact rfl); (case q9n => decide); (case q9s => (intro _; exact rfl))) | ((with_reducible refine' r_gL ?q9G ?q9n ?q9m ?q9v ?q9a ?q9b ?q9c ?_); (case q9G | q9n => assumption); (case q9m => k_extra "mem"); (case q9v => assumption); (case q9a | q9b => exact rfl); (case q9c => decide)) | ((with_reducible refine' r_gB ?q9G ?q9X ?q9e ?q9v ?q9n ?q9g ?q9gb ?q9a ?q9b ?q9c ?_); (case q9G | q9X => assumption); (case q9g | q9gb | q9a | q9b => exact rfl); (case q9e => k_is); (case q9v => boot_fast); (case q9n | q9c => decide)) | ((with_reducible refine' Assign_Tuple ?_ ?q9hs ?q9hw); (case q9hs | q9hw => exact rfl)) | ((with_reducible refine' Assign_Tuple_swapped ?_ ?q9hs ?q9hw); rotate_left; (case q9hs | q9hw => exact rfl)) | ((with_reducible refine' r_unpackI ?q9a ?q9G ?q9m ?q9n ?_); (case q9a | q9G => assumption); (case q9m => k_extra "mem"); (case q9n => exact rfl); intro _ _) | ((with_reducible show wpAny _ _ (PySem.assignInOrder (List.map _ _) _) _ _ _); refine' r_swap2 ?_) | ((with_reducible refine' r_cwK0 ?q9G ?q9X ?q9hk ?_); (case q9G | q9X => assumption); (case q9hk => k_is)) | (with_reducible refine' r_ord ?_ <;> intro _ _) | ((with_reducible refine' r_range1 ?q9G ?_); (case q9G => assumption); intro _ _ _ _ _ _) | (with_reducible refine' r_add ?_ <;> intro _ _) | (with_reducible refine' r_sub ?_ <;> intro _ _))))
    subst hnw
    refine hT _ _ (r_turned (news := DL dA rA nA ds4 rvs1 nd4 nr1 oN1 (L1 ++ Lx)) (Lg.sel (by assumption) (by k_extra "sel")) ?_)
    exact ⟨L1 ++ Lx, ds4, rvs1, nd4, nr1, oN1, kvs1, rfl, ⟨D4, D1.tab, D1.kd, D1.ok, D1.low, D1.rz, D1.kz⟩, m1, m2⟩
  rintro h t m news ⟨Lx, ds1, rvs, nd1, nr, oN1, kvs, rfl, D, m1, m2⟩ G
  (repeat' ((first | k_extra "w" | with_reducible refine Constant_bool ?_ | ((with_reducible refine' wpAny_Compare1 ?_ ?q9hm); (case q9hm => with_unfolding_all rfl)) | ((with_reducible refine' r_lc ?q9c ?q9k ?q9n ?q9s ?_); (case q9c | q9k => exact rfl); (case q9n => decide); (case q9s => (intro _; exact rfl))) | ((with_reducible refine' r_gL ?q9G ?q9n ?q9m ?q9v ?q9a ?q9b ?q9c ?_); (case q9G | q9n => assumption); (case q9m => k_extra "mem"); (case q9v => assumption); (case q9a | q9b => exact rfl); (case q9c => decide)) | ((with_reducible refine' r_gB ?q9G ?q9X ?q9e ?q9v ?q9n ?q9g ?q9gb ?q9a ?q9b ?q9c ?_); (case q9G | q9X => assumption); (case q9g | q9gb | q9a | q9b => exact rfl); (case q9e => k_is); (case q9v => boot_fast); (case q9n | q9c => decide)) | ((with_reducible refine' Assign_Tuple ?_ ?q9hs ?q9hw); (case q9hs | q9hw => exact rfl)) | ((with_reducible refine' Assign_Tuple_swapped ?_ ?q9hs ?q9hw); rotate_left; (case q9hs | q9hw => exact rfl)) | ((with_reducible refine' r_unpackI ?q9a ?q9G ?q9m ?q9n ?_); (case q9a | q9G => assumption); (case q9m => k_extra "mem"); (case q9n => exact rfl); intro _ _) | ((with_reducible show wpAny _ _ (PySem.assignInOrder (List.map _ _) _) _ _ _); refine' r_swap2 ?_) | ((with_reducible refine' r_cwK0 ?q9G ?q9X ?q9hk ?_); (case q9G | q9X => assumption); (case q9hk => k_is)) | (with_reducible refine' r_ord ?_ <;> intro _ _) | ((with_reducible refine' r_range1 ?q9G ?_); (case q9G => assumption); intro _ _ _ _ _ _) | (with_reducible refine' r_add ?_ <;> intro _ _) | (with_reducible refine' r_sub ?_ <;> intro _ _))))
  refine cal (by assumption) (sp_draw (by decide) (by decide) D.deck) ?_
  rintro v nw h' t' ⟨c, uc, rfl, hc0, hc5, ds2, nd2, rfl, D2⟩ G
  obtain ⟨mm, hmm⟩ : ∃ mm : Nat, 1 + c = (mm : Int) := ⟨(1 + c).toNat, by omega⟩
  have hm1 : 1 ≤ mm := by omega
  have hm5 : mm ≤ 5 := by omega
  (repeat' ((first | k_extra "w" | with_reducible refine Constant_bool ?_ | ((with_reducible refine' wpAny_Compare1 ?_ ?q9hm); (case q9hm => with_unfolding_all rfl)) | ((with_reducible refine' r_lc ?q9c ?q9k ?q9n ?q9s ?_); (case q9c | q9k => exact rfl); (case q9n => decide); (case q9s => (intro _; exact rfl))) | ((with_reducible refine' r_gL ?q9G ?q9n ?q9m ?q9v ?q9a ?q9b ?q9c ?_); (case q9G | q9n => assumption); (case q9m => k_extra "mem"); (case q9v => assumption); (case q9a | q9b => exact rfl); (case q9c => decide)) | ((with_reducible refine' r_gB ?q9G ?q9X ?q9e ?q9v ?q9n ?q9g ?q9gb ?q9a ?q9b ?q9c ?_); (case q9G | q9X => assumption); (case q9g | q9gb | q9a | q9b => exact rfl); (case q9e => k_is); (case q9v => boot_fast); (case q9n | q9c => decide)) | ((with_reducible refine' Assign_Tuple ?_ ?q9hs ?q9hw); (case q9hs | q9hw => exact rfl)) | ((with_reducible refine' Assign_Tuple_swapped ?_ ?q9hs ?q9hw); rotate_left; (case q9hs | q9hw => exact rfl)) | ((with_reducible refine' r_unpackI ?q9a ?q9G ?q9m ?q9n ?_); (case q9a | q9G => assumption); (case q9m => k_extra "mem"); (case q9n => exact rfl); intro _ _) | ((with_reducible show wpAny _ _ (PySem.assignInOrder (List.map _ _) _) _ _ _); refine' r_swap2 ?_) | ((with_reducible refine' r_cwK0 ?q9G ?q9X ?q9hk ?_); (case q9G | q9X => assumption); (case q9hk => k_is)) | (with_reducible refine' r_ord ?_ <;> intro _ _) | ((with_reducible refine' r_range1 ?q9G ?_); (case q9G => assumption); intro _ _ _ _ _ _) | (with_reducible refine' r_add ?_ <;> intro _ _) | (with_reducible refine' r_sub ?_ <;> intro _ _))))
  refine r_listRange (n := mm) (by assumption) (by assumption) (.head _) (small_one (by decide) (by decide) (by k_extra "le") (by k_extra "le")) (by rw [size_up (by k_extra "le")]; omega) (by k_extra "le") fun D5 vs5 c5 h5 t5 G hv5 hvi5 => ?_
  (repeat' ((first | k_extra "w" | with_reducible refine Constant_bool ?_ | ((with_reducible refine' wpAny_Compare1 ?_ ?q9hm); (case q9hm => with_unfolding_all rfl)) | ((with_reducible refine' r_lc ?q9c ?q9k ?q9n ?q9s ?_); (case q9c | q9k => exact rfl); (case q9n => decide); (case q9s => (intro _; exact rfl))) | ((with_reducible refine' r_gL ?q9G ?q9n ?q9m ?q9v ?q9a ?q9b ?q9c ?_); (case q9G | q9n => assumption); (case q9m => k_extra "mem"); (case q9v => assumption); (case q9a | q9b => exact rfl); (case q9c => decide)) | ((with_reducible refine' r_gB ?q9G ?q9X ?q9e ?q9v ?q9n ?q9g ?q9gb ?q9a ?q9b ?q9c ?_); (case q9G | q9X => assumption); (case q9g | q9gb | q9a | q9b => exact rfl); (case q9e => k_is); (case q9v => boot_fast); (case q9n | q9c => decide)) | ((with_reducible refine' Assign_Tuple ?_ ?q9hs ?q9hw); (case q9hs | q9hw => exact rfl)) | ((with_reducible refine' Assign_Tuple_swapped ?_ ?q9hs ?q9hw); rotate_left; (case q9hs | q9hw => exact rfl)) | ((with_reducible refine' r_unpackI ?q9a ?q9G ?q9m ?q9n ?_); (case q9a | q9G => assumption); (case q9m => k_extra "mem"); (case q9n => exact rfl); intro _ _) | ((with_reducible show wpAny _ _ (PySem.assignInOrder (List.map _ _) _) _ _ _); refine' r_swap2 ?_) | ((with_reducible refine' r_cwK0 ?q9G ?q9X ?q9hk ?_); (case q9G | q9X => assumption); (case q9hk => k_is)) | (with_reducible refine' r_ord ?_ <;> intro _ _) | ((with_reducible refine' r_range1 ?q9G ?_); (case q9G => assumption); intro _ _ _ _ _ _) | (with_reducible refine' r_add ?_ <;> intro _ _) | (with_reducible refine' r_sub ?_ <;> intro _ _))))
  refine cal (by assumption) (sp_list_of1 (by k_extra "mem") (by k_extra "le")) ?_
  rintro v nw h' t' ⟨ys, L3, rfl, hnw, R⟩ G
  have hyl := R.len
  have hsub3 : ∀ p ∈ L3, p ∈ nw := fun p hp => by rw [hnw]; exact List.mem_append_left _ hp
  (repeat' ((first | k_extra "w" | with_reducible refine Constant_bool ?_ | ((with_reducible refine' wpAny_Compare1 ?_ ?q9hm); (case q9hm => with_unfolding_all rfl)) | ((with_reducible refine' r_lc ?q9c ?q9k ?q9n ?q9s ?_); (case q9c | q9k => exact rfl); (case q9n => decide); (case q9s => (intro _; exact rfl))) | ((with_reducible refine' r_gL ?q9G ?q9n ?q9m ?q9v ?q9a ?q9b ?q9c ?_); (case q9G | q9n => assumption); (case q9m => k_extra "mem"); (case q9v => assumption); (case q9a | q9b => exact rfl); (case q9c => decide)) | ((with_reducible refine' r_gB ?q9G ?q9X ?q9e ?q9v ?q9n ?q9g ?q9gb ?q9a ?q9b ?q9c ?_); (case q9G | q9X => assumption); (case q9g | q9gb | q9a | q9b => exact rfl); (case q9e => k_is); (case q9v => boot_fast); (case q9n | q9c => decide)) | ((with_reducible refine' Assign_Tuple ?_ ?q9hs ?q9hw); (case q9hs | q9hw => exact rfl)) | ((with_reducible refine' Assign_Tuple_swapped ?_ ?q9hs ?q9hw); rotate_left; (case q9hs | q9hw => exact rfl)) | ((with_reducible refine' r_unpackI ?q9a ?q9G ?q9m ?q9n ?_); (case q9a | q9G => assumption); (case q9m => k_extra "mem"); (case q9n => exact rfl); intro _ _) | ((with_reducible show wpAny _ _ (PySem.assignInOrder (List.map _ _) _) _ _ _); refine' r_swap2 ?_) | ((with_reducible refine' r_cwK0 ?q9G ?q9X ?q9hk ?_); (case q9G | q9X => assumption); (case q9hk => k_is)) | (with_reducible refine' r_ord ?_ <;> intro _ _) | ((with_reducible refine' r_range1 ?q9G ?_); (case q9G => assumption); intro _ _ _ _ _ _) | (with_reducible refine' r_add ?_ <;> intro _ _) | (with_reducible refine' r_sub ?_ <;> intro _ _))))
  refine' r_forRange (n := mm - 1) (fun i m nw' => (∃ o, nw' = o :: nw) ∧ m (Str.ofString "last") = some (atv ys (.ref 77) i) ∧ m (Str.ofString "ring") = some (atv ys (.ref 77) 0) ∧ m (Str.ofString "table") = some (.ref tb) ∧ ∃ um, m (Str.ofString "many") = some (.int (1 + c) um)) ?ha rfl rfl ?G ?hr ?hsm ?hn ?j0 ?step ?_
  case ha => assumption
  case G => assumption
  case hr => exact .head _
  case hsm => exact small_one (by decide) (by decide) (by k_extra "le") (by k_extra "le")
  case hn => rw [size_up (by k_extra "le")]; omega
  case j0 => exact ⟨⟨_, rfl⟩, rfl, rfl, m2, _, rfl⟩
  case step =>
    rintro I i h t m nw' u oI hi ⟨⟨o, rfl⟩, p1, p2, p3, um, p4⟩ G
    obtain ⟨y, hy⟩ : ∃ y, ys[i]? = some y := ⟨_, List.getElem?_eq_getElem (by k_extra "le")⟩
    obtain ⟨wi, ki, ti, dxi, ji, ai, bi, ci⟩ := R.cell i y hy
    rw [atv_some hy] at p1
    have Ii : InsIn (fr.heap_1 w.params) nw y 98 (coE ki ti wi (atv ys (.ref 77) (i + 1))) := .news (hsub3 _ bi) (hsub3 _ ci)
    have hh2 := atv_handed (ys := ys) (tv := .ref 77) (dot := false) rfl (i + 1)
    (repeat' ((first | k_extra "w" | with_reducible refine Constant_bool ?_ | ((with_reducible refine' wpAny_Compare1 ?_ ?q9hm); (case q9hm => with_unfolding_all rfl)) | ((with_reducible refine' r_lc ?q9c ?q9k ?q9n ?q9s ?_); (case q9c | q9k => exact rfl); (case q9n => decide); (case q9s => (intro _; exact rfl))) | ((with_reducible refine' r_gL ?q9G ?q9n ?q9m ?q9v ?q9a ?q9b ?q9c ?_); (case q9G | q9n => assumption); (case q9m => k_extra "mem"); (case q9v => assumption); (case q9a | q9b => exact rfl); (case q9c => decide)) | ((with_reducible refine' r_gB ?q9G ?q9X ?q9e ?q9v ?q9n ?q9g ?q9gb ?q9a ?q9b ?q9c ?_); (case q9G | q9X => assumption); (case q9g | q9gb | q9a | q9b => exact rfl); (case q9e => k_is); (case q9v => boot_fast); (case q9n | q9c => decide)) | ((with_reducible refine' Assign_Tuple ?_ ?q9hs ?q9hw); (case q9hs | q9hw => exact rfl)) | ((with_reducible refine' Assign_Tuple_swapped ?_ ?q9hs ?q9hw); rotate_left; (case q9hs | q9hw => exact rfl)) | ((with_reducible refine' r_unpackI ?q9a ?q9G ?q9m ?q9n ?_); (case q9a | q9G => assumption); (case q9m => k_extra "mem"); (case q9n => exact rfl); intro _ _) | ((with_reducible show wpAny _ _ (PySem.assignInOrder (List.map _ _) _) _ _ _); refine' r_swap2 ?_) | ((with_reducible refine' r_cwK0 ?q9G ?q9X ?q9hk ?_); (case q9G | q9X => assumption); (case q9hk => k_is)) | (with_reducible refine' r_ord ?_ <;> intro _ _) | ((with_reducible refine' r_range1 ?q9G ?_); (case q9G => assumption); intro _ _ _ _ _ _) | (with_reducible refine' r_add ?_ <;> intro _ _) | (with_reducible refine' r_sub ?_ <;> intro _ _))))
    k_extra "turned"
    exact ⟨⟨_, rfl⟩, rfl, p2, p3, um, p4⟩
  rintro h t m nw' ⟨⟨o, rfl⟩, p1, p2, p3, um, p4⟩ G
  obtain ⟨yl, hyL⟩ : ∃ y, ys[mm - 1]? = some y := ⟨_, List.getElem?_eq_getElem (by k_extra "le")⟩
  have hy0 : ys[0]? = some (ys.getD 0 0) := by rw [List.getD_eq_getElem?_getD, List.getElem?_eq_getElem (by k_extra "le")]; rfl
  obtain ⟨wl, kl, tl, dxl, jl, al, bl, cl⟩ := R.cell (mm - 1) yl hyL
  rw [atv_some hyL] at p1
  rw [atv_some hy0] at p2
  obtain ⟨nw2, U2⟩ := Put.of_mem (o' := dictOf (coE kl tl wl (.ref (ys.getD 0 0))) jl) (List.Mem.tail o (hsub3 _ cl))
  have RG := ring_of_row (K := fr.heap_1 w.params) R hv5 hm1 hm5 hvi5 (fun p hp => List.Mem.tail o (hsub3 p hp)) hyL al bl U2
  have hblN : (yl, instObj 98 dxl) ∈ o :: nw := .tail _ (hsub3 _ bl)
  have SR : ∀ rest, SP w p loose mean mg mb (.ref 546) [.int (1 + c) um] 20 60 rest (fun r nw => ∃ y u, r = .str y u ∧ nw = rest ∧ codesOf y = ringT mm) := by intro rest; rw [hmm]; exact sp_ring hm1 hm5
  (repeat' ((first | k_extra "w" | with_reducible refine Constant_bool ?_ | ((with_reducible refine' wpAny_Compare1 ?_ ?q9hm); (case q9hm => with_unfolding_all rfl)) | ((with_reducible refine' r_lc ?q9c ?q9k ?q9n ?q9s ?_); (case q9c | q9k => exact rfl); (case q9n => decide); (case q9s => (intro _; exact rfl))) | ((with_reducible refine' r_gL ?q9G ?q9n ?q9m ?q9v ?q9a ?q9b ?q9c ?_); (case q9G | q9n => assumption); (case q9m => k_extra "mem"); (case q9v => assumption); (case q9a | q9b => exact rfl); (case q9c => decide)) | ((with_reducible refine' r_gB ?q9G ?q9X ?q9e ?q9v ?q9n ?q9g ?q9gb ?q9a ?q9b ?q9c ?_); (case q9G | q9X => assumption); (case q9g | q9gb | q9a | q9b => exact rfl); (case q9e => k_is); (case q9v => boot_fast); (case q9n | q9c => decide)) | ((with_reducible refine' Assign_Tuple ?_ ?q9hs ?q9hw); (case q9hs | q9hw => exact rfl)) | ((with_reducible refine' Assign_Tuple_swapped ?_ ?q9hs ?q9hw); rotate_left; (case q9hs | q9hw => exact rfl)) | ((with_reducible refine' r_unpackI ?q9a ?q9G ?q9m ?q9n ?_); (case q9a | q9G => assumption); (case q9m => k_extra "mem"); (case q9n => exact rfl); intro _ _) | ((with_reducible show wpAny _ _ (PySem.assignInOrder (List.map _ _) _) _ _ _); refine' r_swap2 ?_) | ((with_reducible refine' r_cwK0 ?q9G ?q9X ?q9hk ?_); (case q9G | q9X => assumption); (case q9hk => k_is)) | (with_reducible refine' r_ord ?_ <;> intro _ _) | ((with_reducible refine' r_range1 ?q9G ?_); (case q9G => assumption); intro _ _ _ _ _ _) | (with_reducible refine' r_add ?_ <;> intro _ _) | (with_reducible refine' r_sub ?_ <;> intro _ _))))
  refine' r_setattr ?gG ?gX hblN ?gok ?gl put_cdr U2 ?gz ?_
  case gG => assumption
  case gX => assumption
  case gok => k_extra "sok"
  case gl => exact rfl
  case gz => exact Nat.le_of_ble_eq_true rfl
  intro h' t' G
  (repeat' ((first | k_extra "w" | with_reducible refine Constant_bool ?_ | ((with_reducible refine' wpAny_Compare1 ?_ ?q9hm); (case q9hm => with_unfolding_all rfl)) | ((with_reducible refine' r_lc ?q9c ?q9k ?q9n ?q9s ?_); (case q9c | q9k => exact rfl); (case q9n => decide); (case q9s => (intro _; exact rfl))) | ((with_reducible refine' r_gL ?q9G ?q9n ?q9m ?q9v ?q9a ?q9b ?q9c ?_); (case q9G | q9n => assumption); (case q9m => k_extra "mem"); (case q9v => assumption); (case q9a | q9b => exact rfl); (case q9c => decide)) | ((with_reducible refine' r_gB ?q9G ?q9X ?q9e ?q9v ?q9n ?q9g ?q9gb ?q9a ?q9b ?q9c ?_); (case q9G | q9X => assumption); (case q9g | q9gb | q9a | q9b => exact rfl); (case q9e => k_is); (case q9v => boot_fast); (case q9n | q9c => decide)) | ((with_reducible refine' Assign_Tuple ?_ ?q9hs ?q9hw); (case q9hs | q9hw => exact rfl)) | ((with_reducible refine' Assign_Tuple_swapped ?_ ?q9hs ?q9hw); rotate_left; (case q9hs | q9hw => exact rfl)) | ((with_reducible refine' r_unpackI ?q9a ?q9G ?q9m ?q9n ?_); (case q9a | q9G => assumption); (case q9m => k_extra "mem"); (case q9n => exact rfl); intro _ _) | ((with_reducible show wpAny _ _ (PySem.assignInOrder (List.map _ _) _) _ _ _); refine' r_swap2 ?_) | ((with_reducible refine' r_cwK0 ?q9G ?q9X ?q9hk ?_); (case q9G | q9X => assumption); (case q9hk => k_is)) | (with_reducible refine' r_ord ?_ <;> intro _ _) | ((with_reducible refine' r_range1 ?q9G ?_); (case q9G => assumption); intro _ _ _ _ _ _) | (with_reducible refine' r_add ?_ <;> intro _ _) | (with_reducible refine' r_sub ?_ <;> intro _ _))))
  refine cal (by assumption) new_opt ?_
  rintro v nw h' t' ⟨oA, dO, es, jO, uO, vO, rfl, rfl, ⟨k5, t5, rfl⟩, hoA⟩ G
  (repeat' ((first | k_extra "w" | with_reducible refine Constant_bool ?_ | ((with_reducible refine' wpAny_Compare1 ?_ ?q9hm); (case q9hm => with_unfolding_all rfl)) | ((with_reducible refine' r_lc ?q9c ?q9k ?q9n ?q9s ?_); (case q9c | q9k => exact rfl); (case q9n => decide); (case q9s => (intro _; exact rfl))) | ((with_reducible refine' r_gL ?q9G ?q9n ?q9m ?q9v ?q9a ?q9b ?q9c ?_); (case q9G | q9n => assumption); (case q9m => k_extra "mem"); (case q9v => assumption); (case q9a | q9b => exact rfl); (case q9c => decide)) | ((with_reducible refine' r_gB ?q9G ?q9X ?q9e ?q9v ?q9n ?q9g ?q9gb ?q9a ?q9b ?q9c ?_); (case q9G | q9X => assumption); (case q9g | q9gb | q9a | q9b => exact rfl); (case q9e => k_is); (case q9v => boot_fast); (case q9n | q9c => decide)) | ((with_reducible refine' Assign_Tuple ?_ ?q9hs ?q9hw); (case q9hs | q9hw => exact rfl)) | ((with_reducible refine' Assign_Tuple_swapped ?_ ?q9hs ?q9hw); rotate_left; (case q9hs | q9hw => exact rfl)) | ((with_reducible refine' r_unpackI ?q9a ?q9G ?q9m ?q9n ?_); (case q9a | q9G => assumption); (case q9m => k_extra "mem"); (case q9n => exact rfl); intro _ _) | ((with_reducible show wpAny _ _ (PySem.assignInOrder (List.map _ _) _) _ _ _); refine' r_swap2 ?_) | ((with_reducible refine' r_cwK0 ?q9G ?q9X ?q9hk ?_); (case q9G | q9X => assumption); (case q9hk => k_is)) | (with_reducible refine' r_ord ?_ <;> intro _ _) | ((with_reducible refine' r_range1 ?q9G ?_); (case q9G => assumption); intro _ _ _ _ _ _) | (with_reducible refine' r_add ?_ <;> intro _ _) | (with_reducible refine' r_sub ?_ <;> intro _ _))))
  refine cal (by assumption) (sp_printed_ring0 (RG.mono (by k_extra "sub")) (show ys.getD (0 % mm) 0 = ys.getD 0 0 by rw [Nat.zero_mod]) hm1 hm5 (.news (by k_extra "mem") (by k_extra "mem"))) ?_
  rintro v nw h' t' ⟨cA, pv, pn, rfl, hnw, hpv⟩ G
  (repeat' ((first | k_extra "w" | with_reducible refine Constant_bool ?_ | ((with_reducible refine' wpAny_Compare1 ?_ ?q9hm); (case q9hm => with_unfolding_all rfl)) | ((with_reducible refine' r_lc ?q9c ?q9k ?q9n ?q9s ?_); (case q9c | q9k => exact rfl); (case q9n => decide); (case q9s => (intro _; exact rfl))) | ((with_reducible refine' r_gL ?q9G ?q9n ?q9m ?q9v ?q9a ?q9b ?q9c ?_); (case q9G | q9n => assumption); (case q9m => k_extra "mem"); (case q9v => assumption); (case q9a | q9b => exact rfl); (case q9c => decide)) | ((with_reducible refine' r_gB ?q9G ?q9X ?q9e ?q9v ?q9n ?q9g ?q9gb ?q9a ?q9b ?q9c ?_); (case q9G | q9X => assumption); (case q9g | q9gb | q9a | q9b => exact rfl); (case q9e => k_is); (case q9v => boot_fast); (case q9n | q9c => decide)) | ((with_reducible refine' Assign_Tuple ?_ ?q9hs ?q9hw); (case q9hs | q9hw => exact rfl)) | ((with_reducible refine' Assign_Tuple_swapped ?_ ?q9hs ?q9hw); rotate_left; (case q9hs | q9hw => exact rfl)) | ((with_reducible refine' r_unpackI ?q9a ?q9G ?q9m ?q9n ?_); (case q9a | q9G => assumption); (case q9m => k_extra "mem"); (case q9n => exact rfl); intro _ _) | ((with_reducible show wpAny _ _ (PySem.assignInOrder (List.map _ _) _) _ _ _); refine' r_swap2 ?_) | ((with_reducible refine' r_cwK0 ?q9G ?q9X ?q9hk ?_); (case q9G | q9X => assumption); (case q9hk => k_is)) | (with_reducible refine' r_ord ?_ <;> intro _ _) | ((with_reducible refine' r_range1 ?q9G ?_); (case q9G => assumption); intro _ _ _ _ _ _) | (with_reducible refine' r_add ?_ <;> intro _ _) | (with_reducible refine' r_sub ?_ <;> intro _ _))))
  refine cal (by assumption) (SR _) ?_
  rintro v nw3 h' t' ⟨y, uy, rfl, e3, hy⟩ G
  rw [e3] at G
  (repeat' ((first | k_extra "w" | with_reducible refine Constant_bool ?_ | ((with_reducible refine' wpAny_Compare1 ?_ ?q9hm); (case q9hm => with_unfolding_all rfl)) | ((with_reducible refine' r_lc ?q9c ?q9k ?q9n ?q9s ?_); (case q9c | q9k => exact rfl); (case q9n => decide); (case q9s => (intro _; exact rfl))) | ((with_reducible refine' r_gL ?q9G ?q9n ?q9m ?q9v ?q9a ?q9b ?q9c ?_); (case q9G | q9n => assumption); (case q9m => k_extra "mem"); (case q9v => assumption); (case q9a | q9b => exact rfl); (case q9c => decide)) | ((with_reducible refine' r_gB ?q9G ?q9X ?q9e ?q9v ?q9n ?q9g ?q9gb ?q9a ?q9b ?q9c ?_); (case q9G | q9X => assumption); (case q9g | q9gb | q9a | q9b => exact rfl); (case q9e => k_is); (case q9v => boot_fast); (case q9n | q9c => decide)) | ((with_reducible refine' Assign_Tuple ?_ ?q9hs ?q9hw); (case q9hs | q9hw => exact rfl)) | ((with_reducible refine' Assign_Tuple_swapped ?_ ?q9hs ?q9hw); rotate_left; (case q9hs | q9hw => exact rfl)) | ((with_reducible refine' r_unpackI ?q9a ?q9G ?q9m ?q9n ?_); (case q9a | q9G => assumption); (case q9m => k_extra "mem"); (case q9n => exact rfl); intro _ _) | ((with_reducible show wpAny _ _ (PySem.assignInOrder (List.map _ _) _) _ _ _); refine' r_swap2 ?_) | ((with_reducible refine' r_cwK0 ?q9G ?q9X ?q9hk ?_); (case q9G | q9X => assumption); (case q9hk => k_is)) | (with_reducible refine' r_ord ?_ <;> intro _ _) | ((with_reducible refine' r_range1 ?q9G ?_); (case q9G => assumption); intro _ _ _ _ _ _) | (with_reducible refine' r_add ?_ <;> intro _ _) | (with_reducible refine' r_sub ?_ <;> intro _ _))))
  have hrl := ringT_len hm1 hm5
  have hsl := sizeLine_eq
  refine cmp_str (fun i ys nw' => nw' = nw ∧ IntsAre ys ((y.cps.toList.take i).map Int.ofNat)) (by decide) rfl rfl (Ar.hd (by assumption)) (by assumption) (by have:=codesOf_len y;rw[hy]at this;have e2:y.length=y.cps.size:=rfl;omega) ⟨rfl, .nil⟩ ?_ (endK_none ?_)
  · rintro i v ys nw' I oI C oC D m₂ h t hi ⟨c, u, hc, rfl⟩ ⟨rfl, hj⟩ hn hm G
    (repeat' ((first | k_extra "w" | with_reducible refine Constant_bool ?_ | ((with_reducible refine' wpAny_Compare1 ?_ ?q9hm); (case q9hm => with_unfolding_all rfl)) | ((with_reducible refine' r_lc ?q9c ?q9k ?q9n ?q9s ?_); (case q9c | q9k => exact rfl); (case q9n => decide); (case q9s => (intro _; exact rfl))) | ((with_reducible refine' r_gL ?q9G ?q9n ?q9m ?q9v ?q9a ?q9b ?q9c ?_); (case q9G | q9n => assumption); (case q9m => k_extra "mem"); (case q9v => assumption); (case q9a | q9b => exact rfl); (case q9c => decide)) | ((with_reducible refine' r_gB ?q9G ?q9X ?q9e ?q9v ?q9n ?q9g ?q9gb ?q9a ?q9b ?q9c ?_); (case q9G | q9X => assumption); (case q9g | q9gb | q9a | q9b => exact rfl); (case q9e => k_is); (case q9v => boot_fast); (case q9n | q9c => decide)) | ((with_reducible refine' Assign_Tuple ?_ ?q9hs ?q9hw); (case q9hs | q9hw => exact rfl)) | ((with_reducible refine' Assign_Tuple_swapped ?_ ?q9hs ?q9hw); rotate_left; (case q9hs | q9hw => exact rfl)) | ((with_reducible refine' r_unpackI ?q9a ?q9G ?q9m ?q9n ?_); (case q9a | q9G => assumption); (case q9m => k_extra "mem"); (case q9n => exact rfl); intro _ _) | ((with_reducible show wpAny _ _ (PySem.assignInOrder (List.map _ _) _) _ _ _); refine' r_swap2 ?_) | ((with_reducible refine' r_cwK0 ?q9G ?q9X ?q9hk ?_); (case q9G | q9X => assumption); (case q9hk => k_is)) | (with_reducible refine' r_ord ?_ <;> intro _ _) | ((with_reducible refine' r_range1 ?q9G ?_); (case q9G => assumption); intro _ _ _ _ _ _) | (with_reducible refine' r_add ?_ <;> intro _ _) | (with_reducible refine' r_sub ?_ <;> intro _ _))))
    refine ⟨_, _, _, rfl, by assumption, rfl, ?_⟩
    have hc' : (y.cps.toList)[i]? = some c := by simpa using hc
    rw [List.take_add_one, hc', List.map_append]
    exact ints_snoc hj _ _
  rintro D2 h' t' ys nw' G ⟨rfl, hj⟩
  rw [List.take_of_length_le (by simp)] at hj
  have hj : IntsAre ys (codesOf y) := hj
  rw [hy] at hj
  refine r_neSame (by assumption) (by decide) (by assumption) (.tail _ (by rw [hnw]; exact .head _)) (.head _) hpv hj ?_
  (repeat' ((first | k_extra "w" | with_reducible refine Constant_bool ?_ | ((with_reducible refine' wpAny_Compare1 ?_ ?q9hm); (case q9hm => with_unfolding_all rfl)) | ((with_reducible refine' r_lc ?q9c ?q9k ?q9n ?q9s ?_); (case q9c | q9k => exact rfl); (case q9n => decide); (case q9s => (intro _; exact rfl))) | ((with_reducible refine' r_gL ?q9G ?q9n ?q9m ?q9v ?q9a ?q9b ?q9c ?_); (case q9G | q9n => assumption); (case q9m => k_extra "mem"); (case q9v => assumption); (case q9a | q9b => exact rfl); (case q9c => decide)) | ((with_reducible refine' r_gB ?q9G ?q9X ?q9e ?q9v ?q9n ?q9g ?q9gb ?q9a ?q9b ?q9c ?_); (case q9G | q9X => assumption); (case q9g | q9gb | q9a | q9b => exact rfl); (case q9e => k_is); (case q9v => boot_fast); (case q9n | q9c => decide)) | ((with_reducible refine' Assign_Tuple ?_ ?q9hs ?q9hw); (case q9hs | q9hw => exact rfl)) | ((with_reducible refine' Assign_Tuple_swapped ?_ ?q9hs ?q9hw); rotate_left; (case q9hs | q9hw => exact rfl)) | ((with_reducible refine' r_unpackI ?q9a ?q9G ?q9m ?q9n ?_); (case q9a | q9G => assumption); (case q9m => k_extra "mem"); (case q9n => exact rfl); intro _ _) | ((with_reducible show wpAny _ _ (PySem.assignInOrder (List.map _ _) _) _ _ _); refine' r_swap2 ?_) | ((with_reducible refine' r_cwK0 ?q9G ?q9X ?q9hk ?_); (case q9G | q9X => assumption); (case q9hk => k_is)) | (with_reducible refine' r_ord ?_ <;> intro _ _) | ((with_reducible refine' r_range1 ?q9G ?_); (case q9G => assumption); intro _ _ _ _ _ _) | (with_reducible refine' r_add ?_ <;> intro _ _) | (with_reducible refine' r_sub ?_ <;> intro _ _))))
  refine cal (by assumption) (sp_list_of1 (vs := [.int 1 _, .int 2 _]) (by k_extra "mem") (by simp)) ?_
  rintro v nwI h' t' ⟨yi, Li, rfl, hnwI, Ri⟩ G
  obtain ⟨i0, i1, rfl⟩ : ∃ i0 i1, yi = [i0, i1] := by
    exact two_of Ri.len.symm
  rw [show atv [i0, i1] (.ref 77) 0 = .ref i0 from rfl]
  obtain ⟨wa, ka, ta, dxa, ja, aa, ba, ca⟩ := Ri.cell 0 i0 rfl
  obtain ⟨wb, kb, tb', dxb, jb, ab, bb, cb⟩ := Ri.cell 1 i1 rfl
  have hsI : ∀ p ∈ Li, p ∈ nwI := fun p hp => by rw [hnwI]; exact List.mem_append_left _ hp
  (repeat' ((first | k_extra "w" | with_reducible refine Constant_bool ?_ | ((with_reducible refine' wpAny_Compare1 ?_ ?q9hm); (case q9hm => with_unfolding_all rfl)) | ((with_reducible refine' r_lc ?q9c ?q9k ?q9n ?q9s ?_); (case q9c | q9k => exact rfl); (case q9n => decide); (case q9s => (intro _; exact rfl))) | ((with_reducible refine' r_gL ?q9G ?q9n ?q9m ?q9v ?q9a ?q9b ?q9c ?_); (case q9G | q9n => assumption); (case q9m => k_extra "mem"); (case q9v => assumption); (case q9a | q9b => exact rfl); (case q9c => decide)) | ((with_reducible refine' r_gB ?q9G ?q9X ?q9e ?q9v ?q9n ?q9g ?q9gb ?q9a ?q9b ?q9c ?_); (case q9G | q9X => assumption); (case q9g | q9gb | q9a | q9b => exact rfl); (case q9e => k_is); (case q9v => boot_fast); (case q9n | q9c => decide)) | ((with_reducible refine' Assign_Tuple ?_ ?q9hs ?q9hw); (case q9hs | q9hw => exact rfl)) | ((with_reducible refine' Assign_Tuple_swapped ?_ ?q9hs ?q9hw); rotate_left; (case q9hs | q9hw => exact rfl)) | ((with_reducible refine' r_unpackI ?q9a ?q9G ?q9m ?q9n ?_); (case q9a | q9G => assumption); (case q9m => k_extra "mem"); (case q9n => exact rfl); intro _ _) | ((with_reducible show wpAny _ _ (PySem.assignInOrder (List.map _ _) _) _ _ _); refine' r_swap2 ?_) | ((with_reducible refine' r_cwK0 ?q9G ?q9X ?q9hk ?_); (case q9G | q9X => assumption); (case q9hk => k_is)) | (with_reducible refine' r_ord ?_ <;> intro _ _) | ((with_reducible refine' r_range1 ?q9G ?_); (case q9G => assumption); intro _ _ _ _ _ _) | (with_reducible refine' r_add ?_ <;> intro _ _) | (with_reducible refine' r_sub ?_ <;> intro _ _))))
  refine cal (by assumption) new_vec ?_
  rintro v nwV h' t' ⟨V, dV, es, jV, rfl, hnwV, ⟨k6, t6, rfl⟩, hltV⟩ G
  have hsV : ∀ p ∈ nwI, p ∈ nwV := fun p hp => by rw [hnwV]; exact .tail _ (.tail _ (.tail _ hp))
  have mV1 : (V, instObj 141 dV) ∈ nwV := by rw [hnwV]; exact .head _
  (repeat' ((first | k_extra "w" | with_reducible refine Constant_bool ?_ | ((with_reducible refine' wpAny_Compare1 ?_ ?q9hm); (case q9hm => with_unfolding_all rfl)) | ((with_reducible refine' r_lc ?q9c ?q9k ?q9n ?q9s ?_); (case q9c | q9k => exact rfl); (case q9n => decide); (case q9s => (intro _; exact rfl))) | ((with_reducible refine' r_gL ?q9G ?q9n ?q9m ?q9v ?q9a ?q9b ?q9c ?_); (case q9G | q9n => assumption); (case q9m => k_extra "mem"); (case q9v => assumption); (case q9a | q9b => exact rfl); (case q9c => decide)) | ((with_reducible refine' r_gB ?q9G ?q9X ?q9e ?q9v ?q9n ?q9g ?q9gb ?q9a ?q9b ?q9c ?_); (case q9G | q9X => assumption); (case q9g | q9gb | q9a | q9b => exact rfl); (case q9e => k_is); (case q9v => boot_fast); (case q9n | q9c => decide)) | ((with_reducible refine' Assign_Tuple ?_ ?q9hs ?q9hw); (case q9hs | q9hw => exact rfl)) | ((with_reducible refine' Assign_Tuple_swapped ?_ ?q9hs ?q9hw); rotate_left; (case q9hs | q9hw => exact rfl)) | ((with_reducible refine' r_unpackI ?q9a ?q9G ?q9m ?q9n ?_); (case q9a | q9G => assumption); (case q9m => k_extra "mem"); (case q9n => exact rfl); intro _ _) | ((with_reducible show wpAny _ _ (PySem.assignInOrder (List.map _ _) _) _ _ _); refine' r_swap2 ?_) | ((with_reducible refine' r_cwK0 ?q9G ?q9X ?q9hk ?_); (case q9G | q9X => assumption); (case q9hk => k_is)) | (with_reducible refine' r_ord ?_ <;> intro _ _) | ((with_reducible refine' r_range1 ?q9G ?_); (case q9G => assumption); intro _ _ _ _ _ _) | (with_reducible refine' r_add ?_ <;> intro _ _) | (with_reducible refine' r_sub ?_ <;> intro _ _))))
  refine cal (by assumption) (sp_list_of1 (vs := [.int 3 _, .ref V]) (by k_extra "mem") (by simp)) ?_
  rintro v nwO h' t' ⟨yo, Lo, rfl, hnwO, Ro⟩ G
  obtain ⟨o0, o1, rfl⟩ : ∃ i0 i1, yo = [i0, i1] := by
    exact two_of Ro.len.symm
  rw [show atv [o0, o1] (.ref 77) 0 = .ref o0 from rfl]
  obtain ⟨wo, ko, to, dxo, jo, ao, bo, co⟩ := Ro.cell 0 o0 rfl
  obtain ⟨wp, kp, tp, dxp, jp, ap, bp, cp⟩ := Ro.cell 1 o1 rfl
  have hsO : ∀ p ∈ Lo, p ∈ nwO := fun p hp => by rw [hnwO]; exact List.mem_append_left _ hp
  have hsVO : ∀ p ∈ nwV, p ∈ nwO := fun p hp => by rw [hnwO]; exact List.mem_append_right _ (.tail _ hp)
  cases aa
  cases ab
  cases ao
  cases ap
  obtain ⟨nw9, U9⟩ := Put.of_mem (o' := dictOf (coE ka ta (.ref o0) (.ref i1)) ja) (hsVO _ (hsV _ (hsI _ ca)))
  have hm8 := hsVO _ (hsV _ (hsI _ ba))
  (repeat' ((first | k_extra "w" | with_reducible refine Constant_bool ?_ | ((with_reducible refine' wpAny_Compare1 ?_ ?q9hm); (case q9hm => with_unfolding_all rfl)) | ((with_reducible refine' r_lc ?q9c ?q9k ?q9n ?q9s ?_); (case q9c | q9k => exact rfl); (case q9n => decide); (case q9s => (intro _; exact rfl))) | ((with_reducible refine' r_gL ?q9G ?q9n ?q9m ?q9v ?q9a ?q9b ?q9c ?_); (case q9G | q9n => assumption); (case q9m => k_extra "mem"); (case q9v => assumption); (case q9a | q9b => exact rfl); (case q9c => decide)) | ((with_reducible refine' r_gB ?q9G ?q9X ?q9e ?q9v ?q9n ?q9g ?q9gb ?q9a ?q9b ?q9c ?_); (case q9G | q9X => assumption); (case q9g | q9gb | q9a | q9b => exact rfl); (case q9e => k_is); (case q9v => boot_fast); (case q9n | q9c => decide)) | ((with_reducible refine' Assign_Tuple ?_ ?q9hs ?q9hw); (case q9hs | q9hw => exact rfl)) | ((with_reducible refine' Assign_Tuple_swapped ?_ ?q9hs ?q9hw); rotate_left; (case q9hs | q9hw => exact rfl)) | ((with_reducible refine' r_unpackI ?q9a ?q9G ?q9m ?q9n ?_); (case q9a | q9G => assumption); (case q9m => k_extra "mem"); (case q9n => exact rfl); intro _ _) | ((with_reducible show wpAny _ _ (PySem.assignInOrder (List.map _ _) _) _ _ _); refine' r_swap2 ?_) | ((with_reducible refine' r_cwK0 ?q9G ?q9X ?q9hk ?_); (case q9G | q9X => assumption); (case q9hk => k_is)) | (with_reducible refine' r_ord ?_ <;> intro _ _) | ((with_reducible refine' r_range1 ?q9G ?_); (case q9G => assumption); intro _ _ _ _ _ _) | (with_reducible refine' r_add ?_ <;> intro _ _) | (with_reducible refine' r_sub ?_ <;> intro _ _))))
  refine' r_setattr ?qG ?qX hm8 ?qok ?ql put_car U9 ?qz ?_
  case qG => assumption
  case qX => assumption
  case qok => k_extra "sok"
  case ql => exact rfl
  case qz => exact Nat.le_of_ble_eq_true rfl
  intro h' t' G
  have KN := knot_of (K := fr.heap_1 w.params) (hsO _ bo) (hsO _ co) (hsO _ bp) (hsO _ cp) (hsVO _ mV1) (hsVO _ (by rw [hnwV]; exact .tail _ (.head _))) (hsVO _ (by rw [hnwV]; exact .tail _ (.tail _ (.head _)))) hm8 (hsVO _ (hsV _ (hsI _ bb))) (hsVO _ (hsV _ (hsI _ cb))) U9
    (cells_ne Ro.pw (i := 1) (j := 0) rfl rfl (by decide)) (Nat.ne_of_gt (Ro.up o0 (.head _) _ (.tail _ mV1))) (Nat.ne_of_gt (Ro.up o0 (.head _) _ (.tail _ (hsV _ (hsI _ ba))))) (Nat.ne_of_gt (hltV _ (.tail _ (hsI _ ba)))) (cells_ne Ri.pw (i := 1) (j := 0) rfl rfl (by decide))
  (repeat' ((first | k_extra "w" | with_reducible refine Constant_bool ?_ | ((with_reducible refine' wpAny_Compare1 ?_ ?q9hm); (case q9hm => with_unfolding_all rfl)) | ((with_reducible refine' r_lc ?q9c ?q9k ?q9n ?q9s ?_); (case q9c | q9k => exact rfl); (case q9n => decide); (case q9s => (intro _; exact rfl))) | ((with_reducible refine' r_gL ?q9G ?q9n ?q9m ?q9v ?q9a ?q9b ?q9c ?_); (case q9G | q9n => assumption); (case q9m => k_extra "mem"); (case q9v => assumption); (case q9a | q9b => exact rfl); (case q9c => decide)) | ((with_reducible refine' r_gB ?q9G ?q9X ?q9e ?q9v ?q9n ?q9g ?q9gb ?q9a ?q9b ?q9c ?_); (case q9G | q9X => assumption); (case q9g | q9gb | q9a | q9b => exact rfl); (case q9e => k_is); (case q9v => boot_fast); (case q9n | q9c => decide)) | ((with_reducible refine' Assign_Tuple ?_ ?q9hs ?q9hw); (case q9hs | q9hw => exact rfl)) | ((with_reducible refine' Assign_Tuple_swapped ?_ ?q9hs ?q9hw); rotate_left; (case q9hs | q9hw => exact rfl)) | ((with_reducible refine' r_unpackI ?q9a ?q9G ?q9m ?q9n ?_); (case q9a | q9G => assumption); (case q9m => k_extra "mem"); (case q9n => exact rfl); intro _ _) | ((with_reducible show wpAny _ _ (PySem.assignInOrder (List.map _ _) _) _ _ _); refine' r_swap2 ?_) | ((with_reducible refine' r_cwK0 ?q9G ?q9X ?q9hk ?_); (case q9G | q9X => assumption); (case q9hk => k_is)) | (with_reducible refine' r_ord ?_ <;> intro _ _) | ((with_reducible refine' r_range1 ?q9G ?_); (case q9G => assumption); intro _ _ _ _ _ _) | (with_reducible refine' r_add ?_ <;> intro _ _) | (with_reducible refine' r_sub ?_ <;> intro _ _))))
  refine cal (by assumption) new_opt ?_
  rintro v nw h' t' ⟨oB, dB, es, jB, uB, vB, rfl, rfl, ⟨k7, t7, rfl⟩, hoB⟩ G
  (repeat' ((first | k_extra "w" | with_reducible refine Constant_bool ?_ | ((with_reducible refine' wpAny_Compare1 ?_ ?q9hm); (case q9hm => with_unfolding_all rfl)) | ((with_reducible refine' r_lc ?q9c ?q9k ?q9n ?q9s ?_); (case q9c | q9k => exact rfl); (case q9n => decide); (case q9s => (intro _; exact rfl))) | ((with_reducible refine' r_gL ?q9G ?q9n ?q9m ?q9v ?q9a ?q9b ?q9c ?_); (case q9G | q9n => assumption); (case q9m => k_extra "mem"); (case q9v => assumption); (case q9a | q9b => exact rfl); (case q9c => decide)) | ((with_reducible refine' r_gB ?q9G ?q9X ?q9e ?q9v ?q9n ?q9g ?q9gb ?q9a ?q9b ?q9c ?_); (case q9G | q9X => assumption); (case q9g | q9gb | q9a | q9b => exact rfl); (case q9e => k_is); (case q9v => boot_fast); (case q9n | q9c => decide)) | ((with_reducible refine' Assign_Tuple ?_ ?q9hs ?q9hw); (case q9hs | q9hw => exact rfl)) | ((with_reducible refine' Assign_Tuple_swapped ?_ ?q9hs ?q9hw); rotate_left; (case q9hs | q9hw => exact rfl)) | ((with_reducible refine' r_unpackI ?q9a ?q9G ?q9m ?q9n ?_); (case q9a | q9G => assumption); (case q9m => k_extra "mem"); (case q9n => exact rfl); intro _ _) | ((with_reducible show wpAny _ _ (PySem.assignInOrder (List.map _ _) _) _ _ _); refine' r_swap2 ?_) | ((with_reducible refine' r_cwK0 ?q9G ?q9X ?q9hk ?_); (case q9G | q9X => assumption); (case q9hk => k_is)) | (with_reducible refine' r_ord ?_ <;> intro _ _) | ((with_reducible refine' r_range1 ?q9G ?_); (case q9G => assumption); intro _ _ _ _ _ _) | (with_reducible refine' r_add ?_ <;> intro _ _) | (with_reducible refine' r_sub ?_ <;> intro _ _))))
  refine cal (by assumption) (sp_printed_knot (KN.mono (by k_extra "sub")) (.news (by k_extra "mem") (by k_extra "mem"))) ?_
  rintro v nwP h' t' ⟨cB, qv, qn, rfl, hnwP, hqv⟩ G
  (repeat' ((first | k_extra "w" | with_reducible refine Constant_bool ?_ | ((with_reducible refine' wpAny_Compare1 ?_ ?q9hm); (case q9hm => with_unfolding_all rfl)) | ((with_reducible refine' r_lc ?q9c ?q9k ?q9n ?q9s ?_); (case q9c | q9k => exact rfl); (case q9n => decide); (case q9s => (intro _; exact rfl))) | ((with_reducible refine' r_gL ?q9G ?q9n ?q9m ?q9v ?q9a ?q9b ?q9c ?_); (case q9G | q9n => assumption); (case q9m => k_extra "mem"); (case q9v => assumption); (case q9a | q9b => exact rfl); (case q9c => decide)) | ((with_reducible refine' r_gB ?q9G ?q9X ?q9e ?q9v ?q9n ?q9g ?q9gb ?q9a ?q9b ?q9c ?_); (case q9G | q9X => assumption); (case q9g | q9gb | q9a | q9b => exact rfl); (case q9e => k_is); (case q9v => boot_fast); (case q9n | q9c => decide)) | ((with_reducible refine' Assign_Tuple ?_ ?q9hs ?q9hw); (case q9hs | q9hw => exact rfl)) | ((with_reducible refine' Assign_Tuple_swapped ?_ ?q9hs ?q9hw); rotate_left; (case q9hs | q9hw => exact rfl)) | ((with_reducible refine' r_unpackI ?q9a ?q9G ?q9m ?q9n ?_); (case q9a | q9G => assumption); (case q9m => k_extra "mem"); (case q9n => exact rfl); intro _ _) | ((with_reducible show wpAny _ _ (PySem.assignInOrder (List.map _ _) _) _ _ _); refine' r_swap2 ?_) | ((with_reducible refine' r_cwK0 ?q9G ?q9X ?q9hk ?_); (case q9G | q9X => assumption); (case q9hk => k_is)) | (with_reducible refine' r_ord ?_ <;> intro _ _) | ((with_reducible refine' r_range1 ?q9G ?_); (case q9G => assumption); intro _ _ _ _ _ _) | (with_reducible refine' r_add ?_ <;> intro _ _) | (with_reducible refine' r_sub ?_ <;> intro _ _))))
  refine cmp_str (fun i ys nw' => nw' = nwP ∧ IntsAre ys (((Str.ofString "(3 [(#0 2)])").cps.toList.take i).map Int.ofNat)) (by decide) rfl rfl (Ar.hd (by assumption)) (by assumption) (by decide+kernel) ⟨rfl, .nil⟩ ?_ (endK_none ?_)
  · rintro i v ys nw' I oI C oC D m₂ h t hi ⟨c, u, hc, rfl⟩ ⟨rfl, hj⟩ hn hm G
    (repeat' ((first | k_extra "w" | with_reducible refine Constant_bool ?_ | ((with_reducible refine' wpAny_Compare1 ?_ ?q9hm); (case q9hm => with_unfolding_all rfl)) | ((with_reducible refine' r_lc ?q9c ?q9k ?q9n ?q9s ?_); (case q9c | q9k => exact rfl); (case q9n => decide); (case q9s => (intro _; exact rfl))) | ((with_reducible refine' r_gL ?q9G ?q9n ?q9m ?q9v ?q9a ?q9b ?q9c ?_); (case q9G | q9n => assumption); (case q9m => k_extra "mem"); (case q9v => assumption); (case q9a | q9b => exact rfl); (case q9c => decide)) | ((with_reducible refine' r_gB ?q9G ?q9X ?q9e ?q9v ?q9n ?q9g ?q9gb ?q9a ?q9b ?q9c ?_); (case q9G | q9X => assumption); (case q9g | q9gb | q9a | q9b => exact rfl); (case q9e => k_is); (case q9v => boot_fast); (case q9n | q9c => decide)) | ((with_reducible refine' Assign_Tuple ?_ ?q9hs ?q9hw); (case q9hs | q9hw => exact rfl)) | ((with_reducible refine' Assign_Tuple_swapped ?_ ?q9hs ?q9hw); rotate_left; (case q9hs | q9hw => exact rfl)) | ((with_reducible refine' r_unpackI ?q9a ?q9G ?q9m ?q9n ?_); (case q9a | q9G => assumption); (case q9m => k_extra "mem"); (case q9n => exact rfl); intro _ _) | ((with_reducible show wpAny _ _ (PySem.assignInOrder (List.map _ _) _) _ _ _); refine' r_swap2 ?_) | ((with_reducible refine' r_cwK0 ?q9G ?q9X ?q9hk ?_); (case q9G | q9X => assumption); (case q9hk => k_is)) | (with_reducible refine' r_ord ?_ <;> intro _ _) | ((with_reducible refine' r_range1 ?q9G ?_); (case q9G => assumption); intro _ _ _ _ _ _) | (with_reducible refine' r_add ?_ <;> intro _ _) | (with_reducible refine' r_sub ?_ <;> intro _ _))))
    refine ⟨_, _, _, rfl, by assumption, rfl, ?_⟩
    have hc' : ((Str.ofString "(3 [(#0 2)])").cps.toList)[i]? = some c := by simpa using hc
    rw [List.take_add_one, hc', List.map_append]
    exact ints_snoc hj _ _
  rintro D2 h' t' ys nw' G ⟨rfl, hj⟩
  rw [List.take_of_length_le (by simp)] at hj
  have hj : IntsAre ys (codesOf (Str.ofString "(3 [(#0 2)])")) := hj
  rw [knot_codes] at hj
  refine r_eqSame (by assumption) (by decide) (by assumption) (.tail _ (by rw [hnwP]; exact .head _)) (.head _) hqv hj ?_
  (repeat' ((first | k_extra "w" | with_reducible refine Constant_bool ?_ | ((with_reducible refine' wpAny_Compare1 ?_ ?q9hm); (case q9hm => with_unfolding_all rfl)) | ((with_reducible refine' r_lc ?q9c ?q9k ?q9n ?q9s ?_); (case q9c | q9k => exact rfl); (case q9n => decide); (case q9s => (intro _; exact rfl))) | ((with_reducible refine' r_gL ?q9G ?q9n ?q9m ?q9v ?q9a ?q9b ?q9c ?_); (case q9G | q9n => assumption); (case q9m => k_extra "mem"); (case q9v => assumption); (case q9a | q9b => exact rfl); (case q9c => decide)) | ((with_reducible refine' r_gB ?q9G ?q9X ?q9e ?q9v ?q9n ?q9g ?q9gb ?q9a ?q9b ?q9c ?_); (case q9G | q9X => assumption); (case q9g | q9gb | q9a | q9b => exact rfl); (case q9e => k_is); (case q9v => boot_fast); (case q9n | q9c => decide)) | ((with_reducible refine' Assign_Tuple ?_ ?q9hs ?q9hw); (case q9hs | q9hw => exact rfl)) | ((with_reducible refine' Assign_Tuple_swapped ?_ ?q9hs ?q9hw); rotate_left; (case q9hs | q9hw => exact rfl)) | ((with_reducible refine' r_unpackI ?q9a ?q9G ?q9m ?q9n ?_); (case q9a | q9G => assumption); (case q9m => k_extra "mem"); (case q9n => exact rfl); intro _ _) | ((with_reducible show wpAny _ _ (PySem.assignInOrder (List.map _ _) _) _ _ _); refine' r_swap2 ?_) | ((with_reducible refine' r_cwK0 ?q9G ?q9X ?q9hk ?_); (case q9G | q9X => assumption); (case q9hk => k_is)) | (with_reducible refine' r_ord ?_ <;> intro _ _) | ((with_reducible refine' r_range1 ?q9G ?_); (case q9G => assumption); intro _ _ _ _ _ _) | (with_reducible refine' r_add ?_ <;> intro _ _) | (with_reducible refine' r_sub ?_ <;> intro _ _))))
  exact hQ _ _ <| r_backP (by assumption) rfl (by k_extra "sel")
end
section
theorem law_good {cl : Str → Option Addr} {mean : ExcName → Option Value} {args : List WData} {s₁ : Shared} {h : Heap} {t : Nat} (hk : ∀ b o, s₁.heap.get? b = some o → h.get? b = some o) (hg : s₁.gens = #[]) :
    GoodW PySem.Challenge.rw_np0072_01.row.toRowW.claim cl mean args s₁ (.ok (.ret (.bool true))) ⟨h, s₁.gens, s₁.drawn, t, s₁.os⟩ :=
  ⟨.inl ⟨_, _, [], rfl, fun _ => rfl, ReadsW.bool true, by first | rfl | wrow_post, fun _ => ⟨List.nodup_nil, fun _ hm => (nomatch hm)⟩⟩, hk, rfl, hg⟩
theorem law_final {w : World} {p : Program} {loose : List Str} {means : ExcName → Option Value} {mg mb : Str → Option Value} {sa : Addr} {vs : List Value} {ns : List Int} {s₁ : Shared} {h₁ : Heap} {L f : Addr} {t : Nat} {cl : Str → Option Addr} {mean : ExcName → Option Value} {args : List WData} {E : Value → Shared → Prop}
    {name qual : Str} {params : Arguments} {body : List Stmt} {scope : Scope} {dV kV doc pm cdv ct oc cd : Value} {an od : Option Addr} {osl : Array (Option Value)}
    (T : Top p loose means mg mb s₁.heap) (KX : (fr.heap_1 w.params).In s₁.heap) (hI : IntsAre vs ns) (hL : s₁.heap.IsList sa vs.toArray) (hz : ¬ ((63 : Nat) : Int) < (ns.length : Int)) (hg : s₁.gens = #[])
    (F : Fr s₁.heap L h₁ fun y => [(Str.ofString "script", Value.ref sa)].reverse.lookup y) (N : News s₁.heap L h₁ [])
    (ho : (fr.heap_1 w.params).lookup 551 = some ⟨oc, od, .func (fnOf name qual params body scope dV kV doc pm an cdv ct), osl⟩) :
    wpAny (model PySem.Challenge.rw_np0072_01.row.toRowW.prog w) (callerA.deeper (envX qual scope L f cd [])) (execs body (envX qual scope L f cd []))
      (fun fl s' => GoodW PySem.Challenge.rw_np0072_01.row.toRowW.claim cl mean args s₁ (.ok (.ret (match fl with | .ret v => v | _ => .none))) s') E ⟨h₁, s₁.gens, s₁.drawn, t, s₁.os⟩ := by
  refine wpAny_mono (law_walk (f := f) (cd := cd) (sa := sa) hI (by have := hI.length; omega) ho (callerA.deeper (envX qual scope L f cd [])) [] callerA s₁.heap s₁.heap h₁ L s₁.gens s₁.drawn t s₁.os hL ⟨rfl, rfl, show callerA.depth + 1 + 50 < recursionLimit by decide, show callerA.units + 3 + 220 < cLine by decide⟩ ⟨below_caller _, KX, T⟩ ⟨F, N, List.nodup_nil⟩) (fun fl s' z => ?_) fun _ _ z => z.elim
  obtain ⟨h, t', m, news, rfl, G, hv⟩ := z
  cases fl with
  | ret v =>
    have hv : v = .bool true := hv
    subst hv
    exact law_good G.fr.keep hg
  | next => exact absurd (show Value.none = .bool true from hv) (by intro e; cases e)
  | cont => exact absurd (show Value.none = .bool true from hv) (by intro e; cases e)
  | brk => exact absurd (show Value.none = .bool true from hv) (by intro e; cases e)
end
theorem final.tw10010272874993245601 : True := trivial
theorem final.tw10022720517303903229 : True := trivial
theorem final.tw10031195458945160421 : True := trivial
theorem final.tw10042153376342002085 : True := trivial
theorem final.tw10042477878066290759 : True := trivial
theorem final.tw10072896105214885195 : True := trivial
theorem final.tw10091442509036489947 : True := trivial
theorem final.tw10161721240196843986 : True := trivial
theorem final.tw10198918189601624818 : True := trivial
theorem final.tw10200535332316725957 : True := trivial
theorem final.tw10215562686513343379 : True := trivial
theorem final.tw10235623650222328101 : True := trivial
theorem final.tw1023977753357071421 : True := trivial
theorem final.tw10280614528598747071 : True := trivial
theorem final.tw10400498931376978561 : True := trivial
theorem final.tw10405456934154409483 : True := trivial
theorem final.tw1043442410718772437 : True := trivial
theorem final.tw10519780935772106490 : True := trivial
theorem final.tw10620928361779868618 : True := trivial
theorem final.tw10643008662736248833 : True := trivial
theorem final.tw10663948502421397011 : True := trivial
theorem final.tw1068451924353085083 : True := trivial
theorem final.tw10718386975483242087 : True := trivial
theorem final.tw10738175656915342799 : True := trivial
theorem final.tw10747181895674852957 : True := trivial
theorem final.tw10753759007207720170 : True := trivial
theorem final.tw10765091317889912804 : True := trivial
theorem final.tw10855050123940413320 : True := trivial
theorem final.tw10861029094394459488 : True := trivial
theorem final.tw10865263461131140414 : True := trivial
theorem final.tw10897546583699624312 : True := trivial
theorem final.tw1095318954706538441 : True := trivial
theorem final.tw11057646398824700998 : True := trivial
theorem final.tw11076047774576816994 : True := trivial
theorem final.tw11111853263425303166 : True := trivial
theorem final.tw11134921181324909023 : True := trivial
theorem final.tw11138785681079994981 : True := trivial
theorem final.tw11153157573971964366 : True := trivial
theorem final.tw11154759196510255760 : True := trivial
theorem final.tw11265026296916403565 : True := trivial
theorem final.tw11317307489459646166 : True := trivial
theorem final.tw11321821010639799251 : True := trivial
theorem final.tw11340645274387380347 : True := trivial
theorem final.tw11344152429263432679 : True := trivial
theorem final.tw11353945107730167574 : True := trivial
theorem final.tw11449768931154743443 : True := trivial
theorem final.tw11454308670320448749 : True := trivial
theorem final.tw11455286470832896224 : True := trivial
theorem final.tw11512294310007847537 : True := trivial
theorem final.tw11520401330096609620 : True := trivial
theorem final.tw11560674335311833913 : True := trivial
theorem final.tw11578436833355600814 : True := trivial
theorem final.tw11631137980050955617 : True := trivial
theorem final.tw11659793539358505850 : True := trivial
theorem final.tw11702953093837033213 : True := trivial
theorem final.tw11706873253646340512 : True := trivial
theorem final.tw11755607130337481677 : True := trivial
theorem final.tw11773714837947557637 : True := trivial
theorem final.tw11794143875171351199 : True := trivial
theorem final.tw11856049294429453160 : True := trivial
theorem final.tw11908802298470853932 : True := trivial
theorem final.tw11910050627011021864 : True := trivial
theorem final.tw11925769687901133866 : True := trivial
theorem final.tw12054920791875461930 : True := trivial
theorem final.tw12059012588361500591 : True := trivial
theorem final.tw12065736614108987081 : True := trivial
theorem final.tw12094206562244270673 : True := trivial
theorem final.tw1214877445308022672 : True := trivial
theorem final.tw12174733379589101671 : True := trivial
theorem final.tw12181345595061343083 : True := trivial
theorem final.tw12184271839375797728 : True := trivial
theorem final.tw12193083678673576488 : True := trivial
theorem final.tw12197735419432522352 : True := trivial
theorem final.tw12234275800261845075 : True := trivial
theorem final.tw12268144012071753613 : True := trivial
theorem final.tw12274852248375820247 : True := trivial
theorem final.tw12298103585672968418 : True := trivial
theorem final.tw12318481387585133148 : True := trivial
theorem final.tw12358737551627760310 : True := trivial
theorem final.tw12383807108017776369 : True := trivial
theorem final.tw12388972978486176875 : True := trivial
theorem final.tw12389126837187576176 : True := trivial
theorem final.tw12442840532546170135 : True := trivial
theorem final.tw12464643593025077343 : True := trivial
theorem final.tw12494411158683425589 : True := trivial
theorem final.tw12504466222242759415 : True := trivial
theorem final.tw12515764300223037709 : True := trivial
theorem final.tw12521806663579407336 : True := trivial
theorem final.tw12579368493340364875 : True := trivial
theorem final.tw12612486758627221125 : True := trivial
theorem final.tw12677480509375278066 : True := trivial
theorem final.tw12680508778092358129 : True := trivial
theorem final.tw1270100410646638810 : True := trivial
theorem final.tw12740954528895896557 : True := trivial
theorem final.tw12745456073798777040 : True := trivial
theorem final.tw12770567354608641599 : True := trivial
theorem final.tw12787673743913026722 : True := trivial
theorem final.tw12813686065312059881 : True := trivial
theorem final.tw12852182725542459066 : True := trivial
theorem final.tw12857474060036348902 : True := trivial
theorem final.tw12860300667077912899 : True := trivial
theorem final.tw12900595733005133062 : True := trivial
theorem final.tw12904224180886492615 : True := trivial
theorem final.tw12933409026105978606 : True := trivial
theorem final.tw1298481290551079841 : True := trivial
theorem final.tw13028011595235079249 : True := trivial
theorem final.tw13054223058342641115 : True := trivial
theorem final.tw13054706670509775260 : True := trivial
theorem final.tw13065280830581172821 : True := trivial
theorem final.tw13070091137009082169 : True := trivial
theorem final.tw13080574493904572951 : True := trivial
theorem final.tw13084178088124665500 : True := trivial
theorem final.tw1315242773965117982 : True := trivial
theorem final.tw13198125711504249433 : True := trivial
theorem final.tw1323907996379488894 : True := trivial
theorem final.tw13263395380805620054 : True := trivial
theorem final.tw1329960898435082621 : True := trivial
theorem final.tw13399241488008030647 : True := trivial
theorem final.tw13421372506842242409 : True := trivial
theorem final.tw13425406106291310988 : True := trivial
theorem final.tw13436894549356674435 : True := trivial
theorem final.tw13439053634052783255 : True := trivial
theorem final.tw13447579337430037540 : True := trivial
theorem final.tw13484504971853799172 : True := trivial
theorem final.tw13510496807988840059 : True := trivial
theorem final.tw13630834664627184572 : True := trivial
theorem final.tw13653732453751996453 : True := trivial
theorem final.tw13665693801982328571 : True := trivial
theorem final.tw13677162470074421662 : True := trivial
theorem final.tw13707858908888328168 : True := trivial
theorem final.tw13743964422395864366 : True := trivial
theorem final.tw13808806784388952406 : True := trivial
theorem final.tw13831417944032191605 : True := trivial
theorem final.tw13865372829281924981 : True := trivial
theorem final.tw13889069868411292622 : True := trivial
theorem final.tw13902647279651871334 : True := trivial
theorem final.tw13915564520397958564 : True := trivial
theorem final.tw13983057965684439315 : True := trivial
theorem final.tw14005376287791743597 : True := trivial
theorem final.tw14054177327168669609 : True := trivial
theorem final.tw14064300206852897936 : True := trivial
theorem final.tw14075180522251205000 : True := trivial
theorem final.tw14078706251315611494 : True := trivial
theorem final.tw14132208196262697092 : True := trivial
theorem final.tw14187467039090886567 : True := trivial
theorem final.tw14257410440611181681 : True := trivial
theorem final.tw14424997594739748307 : True := trivial
theorem final.tw14504468305319239816 : True := trivial
theorem final.tw145119177381891334 : True := trivial
theorem final.tw14533278132898448490 : True := trivial
theorem final.tw1455309271534816757 : True := trivial
theorem final.tw1457224253908937477 : True := trivial
theorem final.tw14592424073331965608 : True := trivial
theorem final.tw14595197838417933575 : True := trivial
theorem final.tw14674384972403191000 : True := trivial
theorem final.tw14748473483771632679 : True := trivial
theorem final.tw14750047601798303160 : True := trivial
theorem final.tw14780266126383647144 : True := trivial
theorem final.tw14783993916324718730 : True := trivial
theorem final.tw14829698671138086527 : True := trivial
theorem final.tw14838063319114388084 : True := trivial
theorem final.tw14851017382003562648 : True := trivial
theorem final.tw1486570519938057580 : True := trivial
theorem final.tw14885865362977504382 : True := trivial
theorem final.tw14891174452418874599 : True := trivial
theorem final.tw14894378762291251410 : True := trivial
theorem final.tw14923001549059771250 : True := trivial
theorem final.tw14983028593114963129 : True := trivial
theorem final.tw14983176056467492890 : True := trivial
theorem final.tw15002957657636978355 : True := trivial
theorem final.tw15013356878568477745 : True := trivial
theorem final.tw15028318858351353704 : True := trivial
theorem final.tw15043723511891397480 : True := trivial
theorem final.tw15048353312031890575 : True := trivial
theorem final.tw15055759508504394698 : True := trivial
theorem final.tw15076974432374580262 : True := trivial
theorem final.tw15080971510701918577 : True := trivial
theorem final.tw15145089828717093569 : True := trivial
theorem final.tw15187764968134394116 : True := trivial
theorem final.tw15197400897401603280 : True := trivial
theorem final.tw15205743503277619710 : True := trivial
theorem final.tw15209343339840471333 : True := trivial
theorem final.tw15236406610050182710 : True := trivial
theorem final.tw15245276089288008466 : True := trivial
theorem final.tw15310426529280102493 : True := trivial
theorem final.tw15339308187959331983 : True := trivial
theorem final.tw15367180931187552503 : True := trivial
theorem final.tw15399233291992724170 : True := trivial
theorem final.tw1543641582297286357 : True := trivial
theorem final.tw15438442293791725603 : True := trivial
theorem final.tw15461508515462595316 : True := trivial
theorem final.tw1547634603476588811 : True := trivial
theorem final.tw15478524029362250157 : True := trivial
theorem final.tw15491824490430082641 : True := trivial
theorem final.tw15498743456819619291 : True := trivial
theorem final.tw15542392580592094275 : True := trivial
theorem final.tw15548885372391754241 : True := trivial
theorem final.tw15577775736892493570 : True := trivial
theorem final.tw15598267126266478070 : True := trivial
theorem final.tw15606041865945481840 : True := trivial
theorem final.tw15662639868690288205 : True := trivial
theorem final.tw15685204099699473437 : True := trivial
theorem final.tw15694949149481459363 : True := trivial
theorem final.tw15696047645194348214 : True := trivial
theorem final.tw15739658634312021467 : True := trivial
theorem final.tw15749131273807778147 : True := trivial
theorem final.tw15819236128794879702 : True := trivial
theorem final.tw15827805275511034588 : True := trivial
theorem final.tw15874777749913318607 : True := trivial
theorem final.tw15875135524755104827 : True := trivial
theorem final.tw15910529876821992365 : True := trivial
theorem final.tw15981178532920550917 : True := trivial
theorem final.tw15998802877172754485 : True := trivial
theorem final.tw16036176020941953499 : True := trivial
theorem final.tw16058654645877152194 : True := trivial
theorem final.tw16108890937843168717 : True := trivial
theorem final.tw16152952586699198599 : True := trivial
theorem final.tw16195603264935533082 : True := trivial
theorem final.tw16208415720716193051 : True := trivial
theorem final.tw16213496923453673951 : True := trivial
theorem final.tw16345452470020161006 : True := trivial
theorem final.tw16372371286962158275 : True := trivial
theorem final.tw16445440151621273314 : True := trivial
theorem final.tw16505741040005749607 : True := trivial
theorem final.tw16523900511320400833 : True := trivial
theorem final.tw16587799928334261698 : True := trivial
theorem final.tw16599080878393582136 : True := trivial
theorem final.tw16600768930087418477 : True := trivial
theorem final.tw16674493107115136728 : True := trivial
theorem final.tw16678879292118684682 : True := trivial
theorem final.tw16681803135233890039 : True := trivial
theorem final.tw16682726815438651451 : True := trivial
theorem final.tw16686886624783203709 : True := trivial
theorem final.tw16787370370302139407 : True := trivial
theorem final.tw1700212296458557538 : True := trivial
theorem final.tw17007526866515887295 : True := trivial
theorem final.tw17012134854124572592 : True := trivial
theorem final.tw17069250406732826158 : True := trivial
theorem final.tw17104419979807603413 : True := trivial
theorem final.tw17178561752005649357 : True := trivial
theorem final.tw17245632480611900101 : True := trivial
theorem final.tw17299782089999335445 : True := trivial
theorem final.tw1730075988153928496 : True := trivial
theorem final.tw17333754714033110994 : True := trivial
theorem final.tw17339996171863926278 : True := trivial
theorem final.tw17342463505176287074 : True := trivial
theorem final.tw17385785918144372039 : True := trivial
theorem final.tw17447932666967288649 : True := trivial
theorem final.tw17466797589350815985 : True := trivial
theorem final.tw17530486881934591621 : True := trivial
theorem final.tw17558434769859466046 : True := trivial
theorem final.tw17603491640193073671 : True := trivial
theorem final.tw17603693522754296295 : True := trivial
theorem final.tw17695140317198724966 : True := trivial
theorem final.tw17803981208475232141 : True := trivial
theorem final.tw17808083240501529409 : True := trivial
theorem final.tw17873030957218211813 : True := trivial
theorem final.tw17897890680846628611 : True := trivial
theorem final.tw17901554314227848745 : True := trivial
theorem final.tw17920700181158250886 : True := trivial
theorem final.tw17930503770982221751 : True := trivial
theorem final.tw17951112728021898439 : True := trivial
theorem final.tw18014999453988926877 : True := trivial
theorem final.tw18016225678640273874 : True := trivial
theorem final.tw18026312885207256928 : True := trivial
theorem final.tw1807292130814547012 : True := trivial
theorem final.tw18078707001833623592 : True := trivial
theorem final.tw18088646001538774332 : True := trivial
theorem final.tw18109169822893168284 : True := trivial
theorem final.tw18117750947301908491 : True := trivial
theorem final.tw18132660915919845555 : True := trivial
theorem final.tw1814489462105293161 : True := trivial
theorem final.tw18175649675151953347 : True := trivial
theorem final.tw18206413180350993071 : True := trivial
theorem final.tw18209651382716861065 : True := trivial
theorem final.tw18263178374938755917 : True := trivial
theorem final.tw18309510468732470755 : True := trivial
theorem final.tw18333122673250038332 : True := trivial
theorem final.tw18415945428865440635 : True := trivial
theorem final.tw18425918669502787056 : True := trivial
theorem final.tw1864316632754329368 : True := trivial
theorem final.tw1870604113638288131 : True := trivial
theorem final.tw1880908124474737757 : True := trivial
theorem final.tw201284711899435429 : True := trivial
theorem final.tw2042380802555372377 : True := trivial
theorem final.tw2054620920671780340 : True := trivial
theorem final.tw2117453587529596892 : True := trivial
theorem final.tw2149918363426570505 : True := trivial
theorem final.tw2167434960708656226 : True := trivial
theorem final.tw2191496003128243387 : True := trivial
theorem final.tw2205337207617418951 : True := trivial
theorem final.tw2321079126958112427 : True := trivial
theorem final.tw2321552076407377074 : True := trivial
theorem final.tw2351780836226153910 : True := trivial
theorem final.tw2452859651255092558 : True := trivial
theorem final.tw2540090075640739688 : True := trivial
theorem final.tw2594613207386444489 : True := trivial
theorem final.tw2605667792151878190 : True := trivial
theorem final.tw262602147609818247 : True := trivial
theorem final.tw2642378124483132868 : True := trivial
theorem final.tw2666047259498594565 : True := trivial
theorem final.tw2672478281966032744 : True := trivial
theorem final.tw2674754084251863373 : True := trivial
theorem final.tw2705244643275445994 : True := trivial
theorem final.tw2712558364757893831 : True := trivial
theorem final.tw2733928711496653908 : True := trivial
theorem final.tw2734985572039381556 : True := trivial
theorem final.tw2735852446978453560 : True := trivial
theorem final.tw2780607334213947381 : True := trivial
theorem final.tw2826380514477805101 : True := trivial
theorem final.tw2873996453669049586 : True := trivial
theorem final.tw293838362897950174 : True := trivial
theorem final.tw2956332391171996519 : True := trivial
theorem final.tw3153843199815580015 : True := trivial
theorem final.tw3202771341772446615 : True := trivial
theorem final.tw320977072341628269 : True := trivial
theorem final.tw3215508444045181267 : True := trivial
theorem final.tw3244841047014955517 : True := trivial
theorem final.tw3268456759003779936 : True := trivial
theorem final.tw3268801115549755241 : True := trivial
theorem final.tw327804048879480523 : True := trivial
theorem final.tw3284648413635366002 : True := trivial
theorem final.tw3297810478764210625 : True := trivial
theorem final.tw3299347260448351985 : True := trivial
theorem final.tw3384860348465029522 : True := trivial
theorem final.tw3386430849454286035 : True := trivial
theorem final.tw3396835954446963980 : True := trivial
theorem final.tw3477953164056872788 : True := trivial
theorem final.tw3549510782490179937 : True := trivial
theorem final.tw3604459783331421354 : True := trivial
theorem final.tw3619555724634058376 : True := trivial
theorem final.tw3620508677439576389 : True := trivial
theorem final.tw3648285242281479466 : True := trivial
theorem final.tw3648678833678371261 : True := trivial
theorem final.tw3664289199022595240 : True := trivial
theorem final.tw3674315478545736259 : True := trivial
theorem final.tw3801858048873832887 : True := trivial
theorem final.tw3925039905068282176 : True := trivial
theorem final.tw3931139125004063732 : True := trivial
theorem final.tw3936246226047674485 : True := trivial
theorem final.tw4023149660156551754 : True := trivial
theorem final.tw4042677262297476922 : True := trivial
theorem final.tw4099958043619684154 : True := trivial
theorem final.tw4113752316972050158 : True := trivial
theorem final.tw4148469942328469513 : True := trivial
theorem final.tw4215694113837506058 : True := trivial
theorem final.tw4218283207341950518 : True := trivial
theorem final.tw4231731959701284245 : True := trivial
theorem final.tw4286641480978020330 : True := trivial
theorem final.tw4312115456105261190 : True := trivial
theorem final.tw431324274429501512 : True := trivial
theorem final.tw4322747558619495331 : True := trivial
theorem final.tw4330976905765534881 : True := trivial
theorem final.tw4388548718641996207 : True := trivial
theorem final.tw4401232885084960236 : True := trivial
theorem final.tw4525769927309502495 : True := trivial
theorem final.tw4528829327937641964 : True := trivial
theorem final.tw4555462946037337122 : True := trivial
theorem final.tw457487396237478446 : True := trivial
theorem final.tw4684833621079587295 : True := trivial
theorem final.tw4689378356768041090 : True := trivial
theorem final.tw4735494928415244778 : True := trivial
theorem final.tw4852174108514119891 : True := trivial
theorem final.tw4888937455742670783 : True := trivial
theorem final.tw490598620533316918 : True := trivial
theorem final.tw4941518728927537897 : True := trivial
theorem final.tw4970647661392041927 : True := trivial
theorem final.tw4978577268980519545 : True := trivial
theorem final.tw4979452831251284307 : True := trivial
theorem final.tw5002704269191557300 : True := trivial
theorem final.tw5051526369596169145 : True := trivial
theorem final.tw5089064438980251878 : True := trivial
theorem final.tw5163806763146774591 : True := trivial
theorem final.tw518685564630300630 : True := trivial
theorem final.tw5194651091858292416 : True := trivial
theorem final.tw5319059155923292769 : True := trivial
theorem final.tw5389411940215200779 : True := trivial
theorem final.tw5401274072143798051 : True := trivial
theorem final.tw540905259263927105 : True := trivial
theorem final.tw5415015098129623477 : True := trivial
theorem final.tw5448738889633175817 : True := trivial
theorem final.tw5458885026635738522 : True := trivial
theorem final.tw5513875924864653303 : True := trivial
theorem final.tw5529891236541322672 : True := trivial
theorem final.tw5560218833007698151 : True := trivial
theorem final.tw566928310568437219 : True := trivial
theorem final.tw5718155059003099199 : True := trivial
theorem final.tw5837814974287709503 : True := trivial
theorem final.tw5865906972443922646 : True := trivial
theorem final.tw5867727669913414804 : True := trivial
theorem final.tw5875583310089412846 : True := trivial
theorem final.tw5880658404268043043 : True := trivial
theorem final.tw5892880772836789786 : True := trivial
theorem final.tw5911986397072636141 : True := trivial
theorem final.tw5965447415486959453 : True := trivial
theorem final.tw5991860299265673746 : True := trivial
theorem final.tw6028682145041479106 : True := trivial
theorem final.tw604259592467036408 : True := trivial
theorem final.tw6090495070513234986 : True := trivial
theorem final.tw6109497399042551056 : True := trivial
theorem final.tw6158865224554252413 : True := trivial
theorem final.tw6197677828616337916 : True := trivial
theorem final.tw6210968012304685554 : True := trivial
theorem final.tw6304142677640949180 : True := trivial
theorem final.tw6310168104245602047 : True := trivial
theorem final.tw6317172055428654615 : True := trivial
theorem final.tw6324202683138403637 : True := trivial
theorem final.tw6393073497792709979 : True := trivial
theorem final.tw6395861958570744575 : True := trivial
theorem final.tw6395914871137024564 : True := trivial
theorem final.tw6400821650403597412 : True := trivial
theorem final.tw6408627558038916697 : True := trivial
theorem final.tw6520232696832714762 : True := trivial
theorem final.tw6603416985259125135 : True := trivial
theorem final.tw6606378570343130875 : True := trivial
theorem final.tw6627534881075276826 : True := trivial
theorem final.tw6628137532042735977 : True := trivial
theorem final.tw6638249740952437971 : True := trivial
theorem final.tw6687585294528795790 : True := trivial
theorem final.tw6732259038133232107 : True := trivial
theorem final.tw6754861164810569688 : True := trivial
theorem final.tw6771585750997033112 : True := trivial
theorem final.tw6858699216773421007 : True := trivial
theorem final.tw685945308638388284 : True := trivial
theorem final.tw6873886227903350685 : True := trivial
theorem final.tw6995599554730703397 : True := trivial
theorem final.tw7009362083800865533 : True := trivial
theorem final.tw7042804238800614852 : True := trivial
theorem final.tw7048471047989479634 : True := trivial
theorem final.tw7053034628246317399 : True := trivial
theorem final.tw7059414186104199632 : True := trivial
theorem final.tw7073346824454676033 : True := trivial
theorem final.tw7091158148372881714 : True := trivial
theorem final.tw711753044238566856 : True := trivial
theorem final.tw7141247537977813868 : True := trivial
theorem final.tw7157494796241977561 : True := trivial
theorem final.tw7181538497367391721 : True := trivial
theorem final.tw7325223717066525295 : True := trivial
theorem final.tw7343667913038955979 : True := trivial
theorem final.tw738721121300774409 : True := trivial
theorem final.tw7418138010301858417 : True := trivial
theorem final.tw7421639907970033554 : True := trivial
theorem final.tw7436292968995736572 : True := trivial
theorem final.tw7473592055311338256 : True := trivial
theorem final.tw7510096065974059300 : True := trivial
theorem final.tw7521529732563534489 : True := trivial
theorem final.tw768287674293086642 : True := trivial
theorem final.tw7696433628538851831 : True := trivial
theorem final.tw7711765370386156740 : True := trivial
theorem final.tw7750760841996414401 : True := trivial
theorem final.tw7766246707170231122 : True := trivial
theorem final.tw7793451892934577263 : True := trivial
theorem final.tw7824440296963523354 : True := trivial
theorem final.tw7833768916911220442 : True := trivial
theorem final.tw7843005481885371071 : True := trivial
theorem final.tw7847801984549298289 : True := trivial
theorem final.tw7871769968775231162 : True := trivial
theorem final.tw7878490571031677159 : True := trivial
theorem final.tw7911462216747631511 : True := trivial
theorem final.tw7946875952208216686 : True := trivial
theorem final.tw8096007998625531423 : True := trivial
theorem final.tw8146383184080210935 : True := trivial
theorem final.tw819163456452780238 : True := trivial
theorem final.tw8196545804004766000 : True := trivial
theorem final.tw8201848058610677493 : True := trivial
theorem final.tw8203154284121062503 : True := trivial
theorem final.tw8277155828335949306 : True := trivial
theorem final.tw8286449743198589910 : True := trivial
theorem final.tw8335345555407405821 : True := trivial
theorem final.tw8357147266643125806 : True := trivial
theorem final.tw8379826718447848689 : True := trivial
theorem final.tw8385947636691801988 : True := trivial
theorem final.tw8387401590369894660 : True := trivial
theorem final.tw8425546621259409239 : True := trivial
theorem final.tw8445395933244764585 : True := trivial
theorem final.tw8502431511492158837 : True := trivial
theorem final.tw8504249788394277908 : True := trivial
theorem final.tw8525095208462052411 : True := trivial
theorem final.tw8543058232313407451 : True := trivial
theorem final.tw8568633749400116076 : True := trivial
theorem final.tw8594586580704903275 : True := trivial
theorem final.tw8595732399843530982 : True := trivial
theorem final.tw8631227879325413855 : True := trivial
theorem final.tw8634380131411928257 : True := trivial
theorem final.tw8640241798818709816 : True := trivial
theorem final.tw8664426482510907556 : True := trivial
theorem final.tw8731573251788014547 : True := trivial
theorem final.tw8761022939946711465 : True := trivial
theorem final.tw8762036396747011047 : True := trivial
theorem final.tw8878108521458482711 : True := trivial
theorem final.tw8879119404054116266 : True := trivial
theorem final.tw8893288410549481518 : True := trivial
theorem final.tw8956541503333826556 : True := trivial
theorem final.tw8970192344042157281 : True := trivial
theorem final.tw8983094371880723818 : True := trivial
theorem final.tw9027451854550268119 : True := trivial
theorem final.tw905902594052686745 : True := trivial
theorem final.tw9164177404319337304 : True := trivial
theorem final.tw9185436724222690198 : True := trivial
theorem final.tw9189427303333699170 : True := trivial
theorem final.tw9215884214247020788 : True := trivial
theorem final.tw924403086920141998 : True := trivial
theorem final.tw9323295915950350609 : True := trivial
theorem final.tw9345675968381638054 : True := trivial
theorem final.tw9404056537236846864 : True := trivial
theorem final.tw9534507579385296665 : True := trivial
theorem final.tw955534659494221573 : True := trivial
theorem final.tw9571212941379925581 : True := trivial
theorem final.tw9642543529027260233 : True := trivial
theorem final.tw9681507029021437597 : True := trivial
theorem final.tw968365055315499810 : True := trivial
theorem final.tw9735239625325958699 : True := trivial
theorem final.tw9773699992754314531 : True := trivial
theorem final.tw9786854753023996123 : True := trivial
theorem final.tw9788256078724583796 : True := trivial
theorem final.tw9793730967393648613 : True := trivial
theorem final.tw9815051736475309569 : True := trivial
theorem final.tw9816280823844487792 : True := trivial
theorem final.tw9853101933224422399 : True := trivial
theorem final.tw9885169743852063000 : True := trivial
theorem final.tw9916442776834923877 : True := trivial
theorem final.tw9917796009047001856 : True := trivial
theorem final.tw9926354135769274726 : True := trivial
theorem final.tw9941049382910627851 : True := trivial
theorem final.tw9983129932683646242 : True := trivial
set_option Elab.async true in
theorem final : PySem.Challenge.rw_np0072_01.Holds := by
  w_on
  o_law
  o_head (kHook Mine.fr.heap_1 [2, 3, 15, 17, 18, 20, 21, 22, 24, 25, 27, 28, 29, 31, 32, 34, 35, 36, 39, 40, 41, 43, 44, 46, 47, 48, 50, 51, 53, 54, 62, 64, 65, 67, 68, 69, 70, 71, 72, 73, 76, 77, 79, 80, 89, 91, 92, 94, 95, 96, 97, 98, 99, 100, 110, 111, 113, 114, 116, 117, 118, 119, 120, 121, 122, 132, 134, 135, 137, 138, 139, 140, 141, 142, 143, 153, 155, 156, 158, 159, 160, 161, 162, 163, 164, 174, 176, 177, 179, 180, 181, 182, 183, 184, 185, 195, 197, 198, 200, 201, 202, 204, 205, 207, 208, 209, 211, 212, 214, 215, 216, 217, 218, 219, 220, 223, 224, 226, 227, 229, 230, 231, 233, 234, 236, 237, 238, 240, 241, 243, 244, 245, 247, 248, 250, 251, 252, 254, 255, 257, 258, 266, 268, 269, 271, 272, 273, 275, 276, 278, 279, 280, 282, 283, 285, 286, 287, 288, 289, 290, 291, 294, 295, 303, 305, 306, 308, 309, 310, 311, 312, 313, 314, 317, 320, 321, 322, 324, 325, 327, 328, 329, 331, 332, 334, 335, 336, 338, 339, 341, 342, 343, 345, 346, 348, 349, 350, 352, 353, 355, 356, 364, 366, 367, 369, 370, 371, 373, 374, 376, 377, 378, 380, 381, 383, 384, 385, 387, 388, 390, 391, 392, 394, 395, 397, 398, 399, 401, 402, 404, 405, 406, 408, 409, 411, 412, 413, 415, 416, 418, 419, 420, 422, 423, 425, 426, 427, 428, 429, 430, 431, 434, 436, 437, 439, 440, 448, 450, 451, 453, 454, 455, 457, 458, 460, 461, 462, 464, 465, 467, 468, 469, 471, 472, 474, 475, 476, 478, 479, 481, 482, 483, 485, 486, 488, 489, 490, 492, 493, 495, 496, 497, 499, 500, 502, 503, 504, 506, 507, 509, 510, 511, 512, 513, 514, 515, 518, 521, 522, 523, 525, 526, 528, 529, 530, 533, 534, 535, 538, 539, 540, 542, 543, 545, 546, 547, 550, 551] (fun _ => by kernel_rfl))
  (case hw => w_witness2)
  w_strict (
    k_go0
    refine' law_final ?q9T ?q9KX ?q9hI ?q9hL ?q9hz ?q9hg ?q9F ?q9N ?q9ho
    case q9T => assumption
    case q9KX => assumption
    case q9hI => assumption
    case q9hL => assumption
    case q9hz => assumption
    case q9hg => assumption
    case q9F => assumption
    case q9N => assumption
    case q9ho => k_is)
end Mine
theorem PySem.Challenge.cw_np0072_01_holds : PySem.Challenge.rw_np0072_01.Holds := by
  exact Mine.final
