/- tree, clocks, the unit in the making. Part of the proof of girandolelaw09.OrderChains. -/
import Derived.Test.YtglacbfdbfhmfaaDoorB3
import Derived.Test.YtglacbfdbfhmfaaDoorDec
set_option linter.unusedVariables false
set_option linter.unusedSimpArgs false
namespace Go.Abs
theorem ST4:(∀ (r:RG) (v:AV),st r 128 v=⟨r.a,r.b,⟨⟨v,r.c.a.b,r.c.a.c,r.c.a.d,r.c.a.e,r.c.a.f,r.c.a.g,r.c.a.h⟩,r.c.b,r.c.c,r.c.d,r.c.e,r.c.f,r.c.g,r.c.h⟩,r.d,r.e,r.f,r.g,r.h⟩)∧(∀ (r:RG),gt r 128=r.c.a.a)∧(∀ (r:RG) (v:AV),st r 129 v=⟨r.a,r.b,⟨⟨r.c.a.a,v,r.c.a.c,r.c.a.d,r.c.a.e,r.c.a.f,r.c.a.g,r.c.a.h⟩,r.c.b,r.c.c,r.c.d,r.c.e,r.c.f,r.c.g,r.c.h⟩,r.d,r.e,r.f,r.g,r.h⟩)∧(∀ (r:RG),gt r 129=r.c.a.b)∧(∀ (r:RG) (v:AV),st r 130 v=⟨r.a,r.b,⟨⟨r.c.a.a,r.c.a.b,v,r.c.a.d,r.c.a.e,r.c.a.f,r.c.a.g,r.c.a.h⟩,r.c.b,r.c.c,r.c.d,r.c.e,r.c.f,r.c.g,r.c.h⟩,r.d,r.e,r.f,r.g,r.h⟩)∧(∀ (r:RG),gt r 130=r.c.a.c)∧(∀ (r:RG) (v:AV),st r 131 v=⟨r.a,r.b,⟨⟨r.c.a.a,r.c.a.b,r.c.a.c,v,r.c.a.e,r.c.a.f,r.c.a.g,r.c.a.h⟩,r.c.b,r.c.c,r.c.d,r.c.e,r.c.f,r.c.g,r.c.h⟩,r.d,r.e,r.f,r.g,r.h⟩)∧(∀ (r:RG),gt r 131=r.c.a.d)∧(∀ (r:RG) (v:AV),st r 132 v=⟨r.a,r.b,⟨⟨r.c.a.a,r.c.a.b,r.c.a.c,r.c.a.d,v,r.c.a.f,r.c.a.g,r.c.a.h⟩,r.c.b,r.c.c,r.c.d,r.c.e,r.c.f,r.c.g,r.c.h⟩,r.d,r.e,r.f,r.g,r.h⟩)∧(∀ (r:RG),gt r 132=r.c.a.e)∧(∀ (r:RG) (v:AV),st r 133 v=⟨r.a,r.b,⟨⟨r.c.a.a,r.c.a.b,r.c.a.c,r.c.a.d,r.c.a.e,v,r.c.a.g,r.c.a.h⟩,r.c.b,r.c.c,r.c.d,r.c.e,r.c.f,r.c.g,r.c.h⟩,r.d,r.e,r.f,r.g,r.h⟩)∧(∀ (r:RG),gt r 133=r.c.a.f)∧(∀ (r:RG) (v:AV),st r 134 v=⟨r.a,r.b,⟨⟨r.c.a.a,r.c.a.b,r.c.a.c,r.c.a.d,r.c.a.e,r.c.a.f,v,r.c.a.h⟩,r.c.b,r.c.c,r.c.d,r.c.e,r.c.f,r.c.g,r.c.h⟩,r.d,r.e,r.f,r.g,r.h⟩)∧(∀ (r:RG),gt r 134=r.c.a.g)∧(∀ (r:RG) (v:AV),st r 135 v=⟨r.a,r.b,⟨⟨r.c.a.a,r.c.a.b,r.c.a.c,r.c.a.d,r.c.a.e,r.c.a.f,r.c.a.g,v⟩,r.c.b,r.c.c,r.c.d,r.c.e,r.c.f,r.c.g,r.c.h⟩,r.d,r.e,r.f,r.g,r.h⟩)∧(∀ (r:RG),gt r 135=r.c.a.h)∧(∀ (r:RG) (v:AV),st r 136 v=⟨r.a,r.b,⟨r.c.a,⟨v,r.c.b.b,r.c.b.c,r.c.b.d,r.c.b.e,r.c.b.f,r.c.b.g,r.c.b.h⟩,r.c.c,r.c.d,r.c.e,r.c.f,r.c.g,r.c.h⟩,r.d,r.e,r.f,r.g,r.h⟩)∧(∀ (r:RG),gt r 136=r.c.b.a)∧(∀ (r:RG) (v:AV),st r 137 v=⟨r.a,r.b,⟨r.c.a,⟨r.c.b.a,v,r.c.b.c,r.c.b.d,r.c.b.e,r.c.b.f,r.c.b.g,r.c.b.h⟩,r.c.c,r.c.d,r.c.e,r.c.f,r.c.g,r.c.h⟩,r.d,r.e,r.f,r.g,r.h⟩)∧(∀ (r:RG),gt r 137=r.c.b.b)∧(∀ (r:RG) (v:AV),st r 138 v=⟨r.a,r.b,⟨r.c.a,⟨r.c.b.a,r.c.b.b,v,r.c.b.d,r.c.b.e,r.c.b.f,r.c.b.g,r.c.b.h⟩,r.c.c,r.c.d,r.c.e,r.c.f,r.c.g,r.c.h⟩,r.d,r.e,r.f,r.g,r.h⟩)∧(∀ (r:RG),gt r 138=r.c.b.c)∧(∀ (r:RG) (v:AV),st r 139 v=⟨r.a,r.b,⟨r.c.a,⟨r.c.b.a,r.c.b.b,r.c.b.c,v,r.c.b.e,r.c.b.f,r.c.b.g,r.c.b.h⟩,r.c.c,r.c.d,r.c.e,r.c.f,r.c.g,r.c.h⟩,r.d,r.e,r.f,r.g,r.h⟩)∧(∀ (r:RG),gt r 139=r.c.b.d)∧(∀ (r:RG) (v:AV),st r 140 v=⟨r.a,r.b,⟨r.c.a,⟨r.c.b.a,r.c.b.b,r.c.b.c,r.c.b.d,v,r.c.b.f,r.c.b.g,r.c.b.h⟩,r.c.c,r.c.d,r.c.e,r.c.f,r.c.g,r.c.h⟩,r.d,r.e,r.f,r.g,r.h⟩)∧(∀ (r:RG),gt r 140=r.c.b.e)∧(∀ (r:RG) (v:AV),st r 141 v=⟨r.a,r.b,⟨r.c.a,⟨r.c.b.a,r.c.b.b,r.c.b.c,r.c.b.d,r.c.b.e,v,r.c.b.g,r.c.b.h⟩,r.c.c,r.c.d,r.c.e,r.c.f,r.c.g,r.c.h⟩,r.d,r.e,r.f,r.g,r.h⟩)∧(∀ (r:RG),gt r 141=r.c.b.f)∧(∀ (r:RG) (v:AV),st r 142 v=⟨r.a,r.b,⟨r.c.a,⟨r.c.b.a,r.c.b.b,r.c.b.c,r.c.b.d,r.c.b.e,r.c.b.f,v,r.c.b.h⟩,r.c.c,r.c.d,r.c.e,r.c.f,r.c.g,r.c.h⟩,r.d,r.e,r.f,r.g,r.h⟩)∧(∀ (r:RG),gt r 142=r.c.b.g)∧(∀ (r:RG) (v:AV),st r 143 v=⟨r.a,r.b,⟨r.c.a,⟨r.c.b.a,r.c.b.b,r.c.b.c,r.c.b.d,r.c.b.e,r.c.b.f,r.c.b.g,v⟩,r.c.c,r.c.d,r.c.e,r.c.f,r.c.g,r.c.h⟩,r.d,r.e,r.f,r.g,r.h⟩)∧(∀ (r:RG),gt r 143=r.c.b.h)∧(∀ (r:RG) (v:AV),st r 144 v=⟨r.a,r.b,⟨r.c.a,r.c.b,⟨v,r.c.c.b,r.c.c.c,r.c.c.d,r.c.c.e,r.c.c.f,r.c.c.g,r.c.c.h⟩,r.c.d,r.c.e,r.c.f,r.c.g,r.c.h⟩,r.d,r.e,r.f,r.g,r.h⟩)∧(∀ (r:RG),gt r 144=r.c.c.a)∧(∀ (r:RG) (v:AV),st r 145 v=⟨r.a,r.b,⟨r.c.a,r.c.b,⟨r.c.c.a,v,r.c.c.c,r.c.c.d,r.c.c.e,r.c.c.f,r.c.c.g,r.c.c.h⟩,r.c.d,r.c.e,r.c.f,r.c.g,r.c.h⟩,r.d,r.e,r.f,r.g,r.h⟩)∧(∀ (r:RG),gt r 145=r.c.c.b)∧(∀ (r:RG) (v:AV),st r 146 v=⟨r.a,r.b,⟨r.c.a,r.c.b,⟨r.c.c.a,r.c.c.b,v,r.c.c.d,r.c.c.e,r.c.c.f,r.c.c.g,r.c.c.h⟩,r.c.d,r.c.e,r.c.f,r.c.g,r.c.h⟩,r.d,r.e,r.f,r.g,r.h⟩)∧(∀ (r:RG),gt r 146=r.c.c.c)∧(∀ (r:RG) (v:AV),st r 147 v=⟨r.a,r.b,⟨r.c.a,r.c.b,⟨r.c.c.a,r.c.c.b,r.c.c.c,v,r.c.c.e,r.c.c.f,r.c.c.g,r.c.c.h⟩,r.c.d,r.c.e,r.c.f,r.c.g,r.c.h⟩,r.d,r.e,r.f,r.g,r.h⟩)∧(∀ (r:RG),gt r 147=r.c.c.d)∧(∀ (r:RG) (v:AV),st r 148 v=⟨r.a,r.b,⟨r.c.a,r.c.b,⟨r.c.c.a,r.c.c.b,r.c.c.c,r.c.c.d,v,r.c.c.f,r.c.c.g,r.c.c.h⟩,r.c.d,r.c.e,r.c.f,r.c.g,r.c.h⟩,r.d,r.e,r.f,r.g,r.h⟩)∧(∀ (r:RG),gt r 148=r.c.c.e)∧(∀ (r:RG) (v:AV),st r 149 v=⟨r.a,r.b,⟨r.c.a,r.c.b,⟨r.c.c.a,r.c.c.b,r.c.c.c,r.c.c.d,r.c.c.e,v,r.c.c.g,r.c.c.h⟩,r.c.d,r.c.e,r.c.f,r.c.g,r.c.h⟩,r.d,r.e,r.f,r.g,r.h⟩)∧(∀ (r:RG),gt r 149=r.c.c.f)∧(∀ (r:RG) (v:AV),st r 150 v=⟨r.a,r.b,⟨r.c.a,r.c.b,⟨r.c.c.a,r.c.c.b,r.c.c.c,r.c.c.d,r.c.c.e,r.c.c.f,v,r.c.c.h⟩,r.c.d,r.c.e,r.c.f,r.c.g,r.c.h⟩,r.d,r.e,r.f,r.g,r.h⟩)∧(∀ (r:RG),gt r 150=r.c.c.g)∧(∀ (r:RG) (v:AV),st r 151 v=⟨r.a,r.b,⟨r.c.a,r.c.b,⟨r.c.c.a,r.c.c.b,r.c.c.c,r.c.c.d,r.c.c.e,r.c.c.f,r.c.c.g,v⟩,r.c.d,r.c.e,r.c.f,r.c.g,r.c.h⟩,r.d,r.e,r.f,r.g,r.h⟩)∧(∀ (r:RG),gt r 151=r.c.c.h)∧(∀ (r:RG) (v:AV),st r 152 v=⟨r.a,r.b,⟨r.c.a,r.c.b,r.c.c,⟨v,r.c.d.b,r.c.d.c,r.c.d.d,r.c.d.e,r.c.d.f,r.c.d.g,r.c.d.h⟩,r.c.e,r.c.f,r.c.g,r.c.h⟩,r.d,r.e,r.f,r.g,r.h⟩)∧(∀ (r:RG),gt r 152=r.c.d.a)∧(∀ (r:RG) (v:AV),st r 153 v=⟨r.a,r.b,⟨r.c.a,r.c.b,r.c.c,⟨r.c.d.a,v,r.c.d.c,r.c.d.d,r.c.d.e,r.c.d.f,r.c.d.g,r.c.d.h⟩,r.c.e,r.c.f,r.c.g,r.c.h⟩,r.d,r.e,r.f,r.g,r.h⟩)∧(∀ (r:RG),gt r 153=r.c.d.b)∧(∀ (r:RG) (v:AV),st r 154 v=⟨r.a,r.b,⟨r.c.a,r.c.b,r.c.c,⟨r.c.d.a,r.c.d.b,v,r.c.d.d,r.c.d.e,r.c.d.f,r.c.d.g,r.c.d.h⟩,r.c.e,r.c.f,r.c.g,r.c.h⟩,r.d,r.e,r.f,r.g,r.h⟩)∧(∀ (r:RG),gt r 154=r.c.d.c)∧(∀ (r:RG) (v:AV),st r 155 v=⟨r.a,r.b,⟨r.c.a,r.c.b,r.c.c,⟨r.c.d.a,r.c.d.b,r.c.d.c,v,r.c.d.e,r.c.d.f,r.c.d.g,r.c.d.h⟩,r.c.e,r.c.f,r.c.g,r.c.h⟩,r.d,r.e,r.f,r.g,r.h⟩)∧(∀ (r:RG),gt r 155=r.c.d.d)∧(∀ (r:RG) (v:AV),st r 156 v=⟨r.a,r.b,⟨r.c.a,r.c.b,r.c.c,⟨r.c.d.a,r.c.d.b,r.c.d.c,r.c.d.d,v,r.c.d.f,r.c.d.g,r.c.d.h⟩,r.c.e,r.c.f,r.c.g,r.c.h⟩,r.d,r.e,r.f,r.g,r.h⟩)∧(∀ (r:RG),gt r 156=r.c.d.e)∧(∀ (r:RG) (v:AV),st r 157 v=⟨r.a,r.b,⟨r.c.a,r.c.b,r.c.c,⟨r.c.d.a,r.c.d.b,r.c.d.c,r.c.d.d,r.c.d.e,v,r.c.d.g,r.c.d.h⟩,r.c.e,r.c.f,r.c.g,r.c.h⟩,r.d,r.e,r.f,r.g,r.h⟩)∧(∀ (r:RG),gt r 157=r.c.d.f)∧(∀ (r:RG) (v:AV),st r 158 v=⟨r.a,r.b,⟨r.c.a,r.c.b,r.c.c,⟨r.c.d.a,r.c.d.b,r.c.d.c,r.c.d.d,r.c.d.e,r.c.d.f,v,r.c.d.h⟩,r.c.e,r.c.f,r.c.g,r.c.h⟩,r.d,r.e,r.f,r.g,r.h⟩)∧(∀ (r:RG),gt r 158=r.c.d.g)∧(∀ (r:RG) (v:AV),st r 159 v=⟨r.a,r.b,⟨r.c.a,r.c.b,r.c.c,⟨r.c.d.a,r.c.d.b,r.c.d.c,r.c.d.d,r.c.d.e,r.c.d.f,r.c.d.g,v⟩,r.c.e,r.c.f,r.c.g,r.c.h⟩,r.d,r.e,r.f,r.g,r.h⟩)∧(∀ (r:RG),gt r 159=r.c.d.h):=by
 repeat first | apply And.intro | (intros;rfl)
theorem ST5:(∀ (r:RG) (v:AV),st r 160 v=⟨r.a,r.b,⟨r.c.a,r.c.b,r.c.c,r.c.d,⟨v,r.c.e.b,r.c.e.c,r.c.e.d,r.c.e.e,r.c.e.f,r.c.e.g,r.c.e.h⟩,r.c.f,r.c.g,r.c.h⟩,r.d,r.e,r.f,r.g,r.h⟩)∧(∀ (r:RG),gt r 160=r.c.e.a)∧(∀ (r:RG) (v:AV),st r 161 v=⟨r.a,r.b,⟨r.c.a,r.c.b,r.c.c,r.c.d,⟨r.c.e.a,v,r.c.e.c,r.c.e.d,r.c.e.e,r.c.e.f,r.c.e.g,r.c.e.h⟩,r.c.f,r.c.g,r.c.h⟩,r.d,r.e,r.f,r.g,r.h⟩)∧(∀ (r:RG),gt r 161=r.c.e.b)∧(∀ (r:RG) (v:AV),st r 162 v=⟨r.a,r.b,⟨r.c.a,r.c.b,r.c.c,r.c.d,⟨r.c.e.a,r.c.e.b,v,r.c.e.d,r.c.e.e,r.c.e.f,r.c.e.g,r.c.e.h⟩,r.c.f,r.c.g,r.c.h⟩,r.d,r.e,r.f,r.g,r.h⟩)∧(∀ (r:RG),gt r 162=r.c.e.c)∧(∀ (r:RG) (v:AV),st r 163 v=⟨r.a,r.b,⟨r.c.a,r.c.b,r.c.c,r.c.d,⟨r.c.e.a,r.c.e.b,r.c.e.c,v,r.c.e.e,r.c.e.f,r.c.e.g,r.c.e.h⟩,r.c.f,r.c.g,r.c.h⟩,r.d,r.e,r.f,r.g,r.h⟩)∧(∀ (r:RG),gt r 163=r.c.e.d)∧(∀ (r:RG) (v:AV),st r 164 v=⟨r.a,r.b,⟨r.c.a,r.c.b,r.c.c,r.c.d,⟨r.c.e.a,r.c.e.b,r.c.e.c,r.c.e.d,v,r.c.e.f,r.c.e.g,r.c.e.h⟩,r.c.f,r.c.g,r.c.h⟩,r.d,r.e,r.f,r.g,r.h⟩)∧(∀ (r:RG),gt r 164=r.c.e.e)∧(∀ (r:RG) (v:AV),st r 165 v=⟨r.a,r.b,⟨r.c.a,r.c.b,r.c.c,r.c.d,⟨r.c.e.a,r.c.e.b,r.c.e.c,r.c.e.d,r.c.e.e,v,r.c.e.g,r.c.e.h⟩,r.c.f,r.c.g,r.c.h⟩,r.d,r.e,r.f,r.g,r.h⟩)∧(∀ (r:RG),gt r 165=r.c.e.f)∧(∀ (r:RG) (v:AV),st r 166 v=⟨r.a,r.b,⟨r.c.a,r.c.b,r.c.c,r.c.d,⟨r.c.e.a,r.c.e.b,r.c.e.c,r.c.e.d,r.c.e.e,r.c.e.f,v,r.c.e.h⟩,r.c.f,r.c.g,r.c.h⟩,r.d,r.e,r.f,r.g,r.h⟩)∧(∀ (r:RG),gt r 166=r.c.e.g)∧(∀ (r:RG) (v:AV),st r 167 v=⟨r.a,r.b,⟨r.c.a,r.c.b,r.c.c,r.c.d,⟨r.c.e.a,r.c.e.b,r.c.e.c,r.c.e.d,r.c.e.e,r.c.e.f,r.c.e.g,v⟩,r.c.f,r.c.g,r.c.h⟩,r.d,r.e,r.f,r.g,r.h⟩)∧(∀ (r:RG),gt r 167=r.c.e.h)∧(∀ (r:RG) (v:AV),st r 168 v=⟨r.a,r.b,⟨r.c.a,r.c.b,r.c.c,r.c.d,r.c.e,⟨v,r.c.f.b,r.c.f.c,r.c.f.d,r.c.f.e,r.c.f.f,r.c.f.g,r.c.f.h⟩,r.c.g,r.c.h⟩,r.d,r.e,r.f,r.g,r.h⟩)∧(∀ (r:RG),gt r 168=r.c.f.a)∧(∀ (r:RG) (v:AV),st r 169 v=⟨r.a,r.b,⟨r.c.a,r.c.b,r.c.c,r.c.d,r.c.e,⟨r.c.f.a,v,r.c.f.c,r.c.f.d,r.c.f.e,r.c.f.f,r.c.f.g,r.c.f.h⟩,r.c.g,r.c.h⟩,r.d,r.e,r.f,r.g,r.h⟩)∧(∀ (r:RG),gt r 169=r.c.f.b)∧(∀ (r:RG) (v:AV),st r 170 v=⟨r.a,r.b,⟨r.c.a,r.c.b,r.c.c,r.c.d,r.c.e,⟨r.c.f.a,r.c.f.b,v,r.c.f.d,r.c.f.e,r.c.f.f,r.c.f.g,r.c.f.h⟩,r.c.g,r.c.h⟩,r.d,r.e,r.f,r.g,r.h⟩)∧(∀ (r:RG),gt r 170=r.c.f.c)∧(∀ (r:RG) (v:AV),st r 171 v=⟨r.a,r.b,⟨r.c.a,r.c.b,r.c.c,r.c.d,r.c.e,⟨r.c.f.a,r.c.f.b,r.c.f.c,v,r.c.f.e,r.c.f.f,r.c.f.g,r.c.f.h⟩,r.c.g,r.c.h⟩,r.d,r.e,r.f,r.g,r.h⟩)∧(∀ (r:RG),gt r 171=r.c.f.d)∧(∀ (r:RG) (v:AV),st r 172 v=⟨r.a,r.b,⟨r.c.a,r.c.b,r.c.c,r.c.d,r.c.e,⟨r.c.f.a,r.c.f.b,r.c.f.c,r.c.f.d,v,r.c.f.f,r.c.f.g,r.c.f.h⟩,r.c.g,r.c.h⟩,r.d,r.e,r.f,r.g,r.h⟩)∧(∀ (r:RG),gt r 172=r.c.f.e)∧(∀ (r:RG) (v:AV),st r 173 v=⟨r.a,r.b,⟨r.c.a,r.c.b,r.c.c,r.c.d,r.c.e,⟨r.c.f.a,r.c.f.b,r.c.f.c,r.c.f.d,r.c.f.e,v,r.c.f.g,r.c.f.h⟩,r.c.g,r.c.h⟩,r.d,r.e,r.f,r.g,r.h⟩)∧(∀ (r:RG),gt r 173=r.c.f.f)∧(∀ (r:RG) (v:AV),st r 174 v=⟨r.a,r.b,⟨r.c.a,r.c.b,r.c.c,r.c.d,r.c.e,⟨r.c.f.a,r.c.f.b,r.c.f.c,r.c.f.d,r.c.f.e,r.c.f.f,v,r.c.f.h⟩,r.c.g,r.c.h⟩,r.d,r.e,r.f,r.g,r.h⟩)∧(∀ (r:RG),gt r 174=r.c.f.g)∧(∀ (r:RG) (v:AV),st r 175 v=⟨r.a,r.b,⟨r.c.a,r.c.b,r.c.c,r.c.d,r.c.e,⟨r.c.f.a,r.c.f.b,r.c.f.c,r.c.f.d,r.c.f.e,r.c.f.f,r.c.f.g,v⟩,r.c.g,r.c.h⟩,r.d,r.e,r.f,r.g,r.h⟩)∧(∀ (r:RG),gt r 175=r.c.f.h)∧(∀ (r:RG) (v:AV),st r 176 v=⟨r.a,r.b,⟨r.c.a,r.c.b,r.c.c,r.c.d,r.c.e,r.c.f,⟨v,r.c.g.b,r.c.g.c,r.c.g.d,r.c.g.e,r.c.g.f,r.c.g.g,r.c.g.h⟩,r.c.h⟩,r.d,r.e,r.f,r.g,r.h⟩)∧(∀ (r:RG),gt r 176=r.c.g.a)∧(∀ (r:RG) (v:AV),st r 177 v=⟨r.a,r.b,⟨r.c.a,r.c.b,r.c.c,r.c.d,r.c.e,r.c.f,⟨r.c.g.a,v,r.c.g.c,r.c.g.d,r.c.g.e,r.c.g.f,r.c.g.g,r.c.g.h⟩,r.c.h⟩,r.d,r.e,r.f,r.g,r.h⟩)∧(∀ (r:RG),gt r 177=r.c.g.b)∧(∀ (r:RG) (v:AV),st r 178 v=⟨r.a,r.b,⟨r.c.a,r.c.b,r.c.c,r.c.d,r.c.e,r.c.f,⟨r.c.g.a,r.c.g.b,v,r.c.g.d,r.c.g.e,r.c.g.f,r.c.g.g,r.c.g.h⟩,r.c.h⟩,r.d,r.e,r.f,r.g,r.h⟩)∧(∀ (r:RG),gt r 178=r.c.g.c)∧(∀ (r:RG) (v:AV),st r 179 v=⟨r.a,r.b,⟨r.c.a,r.c.b,r.c.c,r.c.d,r.c.e,r.c.f,⟨r.c.g.a,r.c.g.b,r.c.g.c,v,r.c.g.e,r.c.g.f,r.c.g.g,r.c.g.h⟩,r.c.h⟩,r.d,r.e,r.f,r.g,r.h⟩)∧(∀ (r:RG),gt r 179=r.c.g.d)∧(∀ (r:RG) (v:AV),st r 180 v=⟨r.a,r.b,⟨r.c.a,r.c.b,r.c.c,r.c.d,r.c.e,r.c.f,⟨r.c.g.a,r.c.g.b,r.c.g.c,r.c.g.d,v,r.c.g.f,r.c.g.g,r.c.g.h⟩,r.c.h⟩,r.d,r.e,r.f,r.g,r.h⟩)∧(∀ (r:RG),gt r 180=r.c.g.e)∧(∀ (r:RG) (v:AV),st r 181 v=⟨r.a,r.b,⟨r.c.a,r.c.b,r.c.c,r.c.d,r.c.e,r.c.f,⟨r.c.g.a,r.c.g.b,r.c.g.c,r.c.g.d,r.c.g.e,v,r.c.g.g,r.c.g.h⟩,r.c.h⟩,r.d,r.e,r.f,r.g,r.h⟩)∧(∀ (r:RG),gt r 181=r.c.g.f)∧(∀ (r:RG) (v:AV),st r 182 v=⟨r.a,r.b,⟨r.c.a,r.c.b,r.c.c,r.c.d,r.c.e,r.c.f,⟨r.c.g.a,r.c.g.b,r.c.g.c,r.c.g.d,r.c.g.e,r.c.g.f,v,r.c.g.h⟩,r.c.h⟩,r.d,r.e,r.f,r.g,r.h⟩)∧(∀ (r:RG),gt r 182=r.c.g.g)∧(∀ (r:RG) (v:AV),st r 183 v=⟨r.a,r.b,⟨r.c.a,r.c.b,r.c.c,r.c.d,r.c.e,r.c.f,⟨r.c.g.a,r.c.g.b,r.c.g.c,r.c.g.d,r.c.g.e,r.c.g.f,r.c.g.g,v⟩,r.c.h⟩,r.d,r.e,r.f,r.g,r.h⟩)∧(∀ (r:RG),gt r 183=r.c.g.h)∧(∀ (r:RG) (v:AV),st r 184 v=⟨r.a,r.b,⟨r.c.a,r.c.b,r.c.c,r.c.d,r.c.e,r.c.f,r.c.g,⟨v,r.c.h.b,r.c.h.c,r.c.h.d,r.c.h.e,r.c.h.f,r.c.h.g,r.c.h.h⟩⟩,r.d,r.e,r.f,r.g,r.h⟩)∧(∀ (r:RG),gt r 184=r.c.h.a)∧(∀ (r:RG) (v:AV),st r 185 v=⟨r.a,r.b,⟨r.c.a,r.c.b,r.c.c,r.c.d,r.c.e,r.c.f,r.c.g,⟨r.c.h.a,v,r.c.h.c,r.c.h.d,r.c.h.e,r.c.h.f,r.c.h.g,r.c.h.h⟩⟩,r.d,r.e,r.f,r.g,r.h⟩)∧(∀ (r:RG),gt r 185=r.c.h.b)∧(∀ (r:RG) (v:AV),st r 186 v=⟨r.a,r.b,⟨r.c.a,r.c.b,r.c.c,r.c.d,r.c.e,r.c.f,r.c.g,⟨r.c.h.a,r.c.h.b,v,r.c.h.d,r.c.h.e,r.c.h.f,r.c.h.g,r.c.h.h⟩⟩,r.d,r.e,r.f,r.g,r.h⟩)∧(∀ (r:RG),gt r 186=r.c.h.c)∧(∀ (r:RG) (v:AV),st r 187 v=⟨r.a,r.b,⟨r.c.a,r.c.b,r.c.c,r.c.d,r.c.e,r.c.f,r.c.g,⟨r.c.h.a,r.c.h.b,r.c.h.c,v,r.c.h.e,r.c.h.f,r.c.h.g,r.c.h.h⟩⟩,r.d,r.e,r.f,r.g,r.h⟩)∧(∀ (r:RG),gt r 187=r.c.h.d)∧(∀ (r:RG) (v:AV),st r 188 v=⟨r.a,r.b,⟨r.c.a,r.c.b,r.c.c,r.c.d,r.c.e,r.c.f,r.c.g,⟨r.c.h.a,r.c.h.b,r.c.h.c,r.c.h.d,v,r.c.h.f,r.c.h.g,r.c.h.h⟩⟩,r.d,r.e,r.f,r.g,r.h⟩)∧(∀ (r:RG),gt r 188=r.c.h.e)∧(∀ (r:RG) (v:AV),st r 189 v=⟨r.a,r.b,⟨r.c.a,r.c.b,r.c.c,r.c.d,r.c.e,r.c.f,r.c.g,⟨r.c.h.a,r.c.h.b,r.c.h.c,r.c.h.d,r.c.h.e,v,r.c.h.g,r.c.h.h⟩⟩,r.d,r.e,r.f,r.g,r.h⟩)∧(∀ (r:RG),gt r 189=r.c.h.f)∧(∀ (r:RG) (v:AV),st r 190 v=⟨r.a,r.b,⟨r.c.a,r.c.b,r.c.c,r.c.d,r.c.e,r.c.f,r.c.g,⟨r.c.h.a,r.c.h.b,r.c.h.c,r.c.h.d,r.c.h.e,r.c.h.f,v,r.c.h.h⟩⟩,r.d,r.e,r.f,r.g,r.h⟩)∧(∀ (r:RG),gt r 190=r.c.h.g)∧(∀ (r:RG) (v:AV),st r 191 v=⟨r.a,r.b,⟨r.c.a,r.c.b,r.c.c,r.c.d,r.c.e,r.c.f,r.c.g,⟨r.c.h.a,r.c.h.b,r.c.h.c,r.c.h.d,r.c.h.e,r.c.h.f,r.c.h.g,v⟩⟩,r.d,r.e,r.f,r.g,r.h⟩)∧(∀ (r:RG),gt r 191=r.c.h.h):=by
 repeat first | apply And.intro | (intros;rfl)
end Go.Abs
set_option maxRecDepth 1000000
namespace Go.Proofs
open Go Go.Abs
def tV (T k:Nat):Prop:=∃ e i z,bE CC T=some e∧CC.P.info? e=some i∧ck CC e=some z∧i.size=k∧0 < k∧(0 < i.bytes∧i.bytes≤65536)∧z.cells.length=k∧∀ f,CC.mutT f T=false
noncomputable def Tl (T:Nat):Option (Nat × Bool × Nat):=match bE CC T with
 | some e=>match CC.P.info? e,ck CC e with
   | some i,some z=>some (i.size,decide (0 < i.bytes∧i.bytes≤65536),z.cells.length)
   | _,_=>none
 | none=>none
theorem j9 {T k:Nat}(h:Tl T=some (k,true,k))(hk:0 < k)(hm:∀ f,CC.mutT f T=false):tV T k:=by
 unfold Tl at h
 split at h
 ·rename_i e he
  split at h
  ·rename_i i z hi hz;simp only[SJ,PJ,decide_eq_true_eq] at h;exact ⟨e,i,z,he,hi,hz,h.1,hk,h.2.1,h.2.2,hm⟩
  ·cases h
 ·cases h
section
variable {T k:Nat}(hT:tV T k)(f:Nat){xs ys:List AV}{hp:Heap}{e:Nat}(lin:Lin)
include hT
theorem rO (hy:ys ≠ [])(hok:ys.all (bt k)=true)(hl:ys.length≤2 ^ 24):aq CC f T .nils (.sl k ys lin) ⟨hp,e⟩=some (.sl k ys (.live (aa hp) 0),⟨hp ++ [.lin 0],e⟩):=by
 obtain ⟨el,i,z,h1,h2,h3,h4,h5,h6,h7,h8⟩:=hT
 have hne:¬ (i.size=0∨i.bytes=0∨z.cells.length ≠ i.size∨ys.all (bt i.size)=false∨2 ^ 16 < i.bytes):=by
  rw[h4,hok,h7];simp;omega
 have h9:decide (([]:List AV).length + ys.length≤2 ^ 24)=true:=by simpa using hl
 have h10:ys.isEmpty=false:=by cases ys with
  | nil=>exact absurd rfl hy
  | cons a l=>rfl
 simp only[aq,h1,h2,h3,ba,h4,if_true];rw[h4] at hne;rw[if_neg hne];simp[h9,h10,h8,ai,hl]
theorem rQ (hy:ys ≠ [])(hok:ys.all (bt k)=true)(hl:xs.length + ys.length≤2 ^ 24):aq CC f T (.sl k xs .lit) (.sl k ys lin) ⟨hp,e⟩=some (.sl k (xs ++ ys) (.live (aa hp) 0),⟨hp ++ [.lin 0],e⟩):=by
 obtain ⟨el,i,z,h1,h2,h3,h4,h5,h6,h7,h8⟩:=hT
 have hne:¬ (i.size=0∨i.bytes=0∨z.cells.length ≠ i.size∨ys.all (bt i.size)=false∨2 ^ 16 < i.bytes):=by
  rw[h4,hok,h7];simp;omega
 have h10:ys.isEmpty=false:=by cases ys with
  | nil=>exact absurd rfl hy
  | cons a l=>rfl
 simp only[aq,h1,h2,h3,ba,h4,if_true];rw[h4] at hne;rw[if_neg hne];simp[h10,h8,ai,hl]
theorem iW (hy:ys ≠ [])(hok:ys.all (bt k)=true)(hl:xs.length + ys.length≤2 ^ 24){id g:Nat}(hg:ae hp id=some (.lin g)):aq CC f T (.sl k xs (.live id g)) (.sl k ys lin) ⟨hp,e⟩=some (.sl k (xs ++ ys) (.live id (g + 1)),⟨aj hp id (.lin (g + 1)),e⟩):=by
 obtain ⟨el,i,z,h1,h2,h3,h4,h5,h6,h7,h8⟩:=hT
 have hne:¬ (i.size=0∨i.bytes=0∨z.cells.length ≠ i.size∨ys.all (bt i.size)=false∨2 ^ 16 < i.bytes):=by
  rw[h4,hok,h7];simp;omega
 have h10:ys.isEmpty=false:=by cases ys with
  | nil=>exact absurd rfl hy
  | cons a l=>rfl
 rw[az] at hg;simp only[aq,h1,h2,h3,ba,h4,if_true];rw[h4] at hne;rw[if_neg hne];simp[h10,h8,hl,hg,aM]
theorem kF (hl:xs.length≤2 ^ 24){q:Lin}:aq CC f T (.sl k xs q) .nils ⟨hp,e⟩=some (.sl k xs q,⟨hp,e⟩):=by
 obtain ⟨el,i,z,h1,h2,h3,h4,h5,h6,h7,h8⟩:=hT
 have hne:¬ (i.size=0∨i.bytes=0∨z.cells.length ≠ i.size∨([]:List AV).all (bt i.size)=false∨2 ^ 16 < i.bytes):=by
  rw[h4,h7];simp;omega
 simp only[aq,h1,h2,h3,ba,h4,if_true];rw[h4] at hne;rw[if_neg hne];simp[hl]
end
theorem Dz (f T:Nat)(h:(T == 63 || T == 65)=false):CC.mutT f T=false:=h
theorem sl58:tV 43 6:=j9 (by kernel_rfl) (by decide) (fun f=>Dz f 43 rfl)
theorem sl83:tV 62 4:=j9 (by kernel_rfl) (by decide) (fun f=>Dz f 62 rfl)
theorem sl139:tV 88 3:=j9 (by kernel_rfl) (by decide) (fun f=>Dz f 88 rfl)
theorem sl140:tV 116 2:=j9 (by kernel_rfl) (by decide) (fun f=>Dz f 116 rfl)
def Xp (f:Nat):Bool:=[46,47,48,49,50,90,75,61,62,63,64,65,85,82,74,81,83,84,89,20,21,23,35,36,9,24,37,51].any (Nat.beq f)
def ia (M:Memo):Prop:=∀ f a,Xp f=true→M f a=none
theorem flM_of:∀ {l:List (FuncId × List AV × AV)},l.all (fun e=>!Xp e.1)=true→ia (memoL l)
 | [],_,f,a,_=>rfl
 | (g,b,v) :: r,h,f,a,hf=>by
   simp only[List.all_cons,Bool.and_eq_true] at h
   have hne:Nat.beq g f=false:=by
    cases hb:Nat.beq g f with
    | false=>rfl
    | true =>
      have:=Nat.eq_of_beq_eq_true hb;subst this;rw[hf] at h;exact absurd h.1 (by decide)
   show cond (Nat.beq g f) _ (memoL r f a)=none;rw[hne];exact flM_of h.2 f a hf
def dw (d:NdR):List DeR:=d.ins ++ d.outs ++ d.vars
def allZ:List DeR→AV
 | []=>.sl 6 [] .lit
 | l=>.sl 6 (l.map DeR.v) .dead
def U8 (b:Nat)(Hc:Heap)(v:AV)(acc:List DeR):Prop:=(acc=[]∧v=.sl 6 [] .lit)∨(acc ≠ []∧∃ id g,v=.sl 6 (acc.map DeR.v) (.live id g)∧ae Hc id=some (.lin g)∧b≤id)
theorem Gp (l:List DeR):(l.map DeR.v).all (bt 6)=true:=by
 induction l with
 | nil=>rfl
 | cons a l ih=>rw[List.map_cons,List.all_cons,ih];rfl
theorem qy {f:Nat}{P G:Heap}{v:AV}{acc l:List DeR}(h:U8 (aa P) (P ++ G) v acc)(hl:acc.length + l.length≤2 ^ 24) :
  ∃ v' G',(∀ e,aq CC f 43 v (deZ l) ⟨P ++ G,e⟩=some (v',⟨P ++ G',e⟩))∧U8 (aa P) (P ++ G') v' (acc ++ l):=by
 cases l with
 | nil =>
   rcases h with ⟨rfl,rfl⟩ | ⟨h0,id,g,rfl,hg,hb⟩
   ·exact ⟨_,G,fun e=>kF sl58 f (by simp),.inl ⟨rfl,rfl⟩⟩
   ·exact ⟨_,G,fun e=>kF sl58 f (by rw[List.length_map];omega),.inr ⟨by simpa using h0,id,g,by simp,hg,hb⟩⟩
 | cons a l =>
   rcases h with ⟨rfl,rfl⟩ | ⟨h0,id,g,rfl,hg,hb⟩
   ·refine ⟨.sl 6 ((a :: l).map DeR.v) (.live (aa (P ++ G)) 0),G ++ [.lin 0],fun e=>?_,.inr ⟨by simp,aa (P ++ G),0,rfl,?_,by rw[aI];omega⟩⟩
    ·have:=rQ (xs:=[]) (ys:=(a :: l).map DeR.v) (hp:=P ++ G) (e:=e) sl58 f .dead (by simp) (Gp _) (by rw[List.length_map];simpa using hl)
     rw[List.nil_append] at this;rw[← List.append_assoc];exact this
    ·rw[← List.append_assoc,aD];rfl
   ·refine ⟨.sl 6 ((acc ++ a :: l).map DeR.v) (.live id (g + 1)),aj G (id - P.length) (.lin (g + 1)),fun e=>?_,.inr ⟨by simp,id,g + 1,rfl,?_,hb⟩⟩
    ·have:=iW (xs:=acc.map DeR.v) (ys:=(a :: l).map DeR.v) (hp:=P ++ G) (e:=e) sl58 f .dead (by simp) (Gp _) (by rw[List.length_map,List.length_map];exact hl) hg
     rw[← List.map_append,dc (by rw[← ai];exact hb)] at this
     exact this
    ·rw[← dc (by rw[← ai];exact hb)]
     exact aO hg _
abbrev eT (d:NdR):AObj:=.cells (fN d.s d.p d.ins d.outs d.vars (oc d.eqs))
theorem pi (d:NdR)(L:Nat):ep d.v L=some (.cells (fN d.s d.p d.ins d.outs d.vars (oc d.eqs)),(.ptr · 0)):=by
 have h1:d.v.low L=true:=(dh _ (by simp only[dT,bH,noNL_nil,gG,linN_dead,eq_noN,fc,fg,eX,cond_true])).2 L
 have h2:(AV.cells d.v).all AV.one=true:=by
  show (fN d.s d.p d.ins d.outs d.vars (oc d.eqs)).all AV.one=true;simp only[List.all_cons,List.all_nil,ip,ev,eA,kj,Bool.and_self]
 unfold ep;rw[if_pos ⟨h2,h1⟩];rfl
theorem iw {k:Bool}{b:Nat}{v:AV}{hp:Heap}(h:fZ v=true):lU k b v ⟨hp,b⟩=.ret v (bG b hp) b:=by
 unfold lU;rw[h,show Nat.beq b b=true by rw[gY];simp]
 rfl
theorem keep113:CC.keep 46=false:=by kernel_rfl
theorem bsl58_0:aP CC 43 0 []=some (.sl 6 [] .lit):=by kernel_rfl
theorem uY {M:Memo}(m:ia M)(d:NdR)(hl:(dw d).length≤2 ^ 24)(H:Heap):orc CC M 46 [d.v] H=some (.ret (allZ (dw d)) H (aa H)):=by
 refine aL (z:=z46) (m _ _ rfl) (by kernel_rfl) rfl ?_
 have e0:(envOf [d.v] 0 env0).a.a.a=d.v:=rfl;generalize envOf [d.v] 0 env0=R at e0;have hb:=pi d;unfold dw at hl ⊢;have hlB:aa (H ++ [eT d])=aa H + 1:=by rw[aI];rfl
 rw[List.length_append,List.length_append] at hl;obtain ⟨v1,G1,a1,I1⟩:=qy (f:=46) (P:=H ++ [eT d]) (G:=[]) (v:=.sl 6 [] .lit) (acc:=[]) (l:=d.ins) (.inl ⟨rfl,rfl⟩) (by simp;omega)
 obtain ⟨v2,G2,a2,I2⟩:=qy (f:=46) (l:=d.outs) I1 (by simp;omega)
 obtain ⟨v3,G3,a3,I3⟩:=qy (f:=46) (l:=d.vars) I2 (by simp;omega)
 rw[List.nil_append] at I1 I2 I3;rw[List.append_nil] at a1;have gB:∀ G,ae (H ++ [eT d] ++ G) (aa H)=some (eT d):=fun G=>aw (by rw[aD];rfl) _
 have hs0:=nF d.outs;have hs1:=nF d.vars
 obtain ⟨r',hr',hpre⟩ : ∃ r',r'.a.a.c=v3∧z46.sh (orc CC M) R [] ⟨H,aa H⟩=some (.ret,r',[],⟨H ++ [eT d] ++ G3,aa H⟩):=by
  have gB0:ae (H ++ [eT d]) (aa H)=some (eT d):=by rw[aD];rfl
  simp only[z46,Qc,Nu,SIM,ST0,e0,hb,bsl58_0,a1,a2,a3,gB,gB0,hs0,hs1,Nat.reduceAdd,Nat.reduceLeDiff];exact ⟨_,rfl,rfl⟩
 rw[hpre];have ht:∀ G:Heap,bG (aa H) (H ++ [eT d] ++ G)=H:=fun G=>by rw[List.append_assoc,cn]
 have hres:fG r' (H ++ [eT d] ++ G3) z46.res=some [v3]:=by
  show fG r' _ [.t 2]=_;rw[kU,jD,show gt r' 2=v3 from hr']
 rw[ju,hres];show some (lU (CC.keep 46) (aa H) v3 ⟨H ++ [eT d] ++ G3,aa H⟩)=_;rw[keep113]
 rcases I3 with ⟨h0,rfl⟩ | ⟨h0,id,g,rfl,hg,hb⟩
 ·rw[h0,iw rfl,ht];rfl
 ·rw[gu (de_noN _) (by omega),ht]
  obtain ⟨x,l,hx⟩ : ∃ x l,d.ins ++ d.outs ++ d.vars=x :: l:=List.exists_cons_of_ne_nil h0;rw[hx];rfl
theorem cc58:∃ e,CC.P.underlying 43=some (.slice e)∧e=93:=⟨_,by kernel_rfl,rfl⟩
theorem mq (L:List DeR):bn CC 43 (allZ L)=some (.int .i64 (L.length:Int)):=by
 obtain ⟨e,hu,_⟩:=cc58;cases L with
 | nil=>show bn CC 43 (.sl 6 [] .lit)=_;rw[cU hu];simp
 | cons a l=>show bn CC 43 (.sl 6 ((a :: l).map DeR.v) .dead)=_;rw[cU hu,List.length_map]
theorem sy {L:List DeR}{i:Nat}{a:DeR}(h:L[i]?=some a):bb 6 (allZ L) (.int .i64 (i:Int))=some (.iptr a.l):=by
 cases L with
 | nil=>simp at h
 | cons b l =>
   show bb 6 (.sl 6 ((b :: l).map DeR.v) .dead) _=_;refine cq (v:=a.v) ?_;rw[az,List.getElem?_map,h];rfl
abbrev zD:List AV:=[.str [],.int .i64 0,.bool false,.bool false,.str [],.bool false]
def XF (H:Heap)(B:AObj)(L:List DeR)(X:IRes):Prop :=
 (∃ r' G,X=some (.exit 0,r',[],⟨H ++ [B,.cells zD] ++ G,aa H⟩)∧r'.a.a.e=.ptr (aa H + 1) 0) ∨
 (∃ r' G c,c ∈ L∧X=some (.ret,r',[],⟨H ++ [B,.cells c.l] ++ G,aa H⟩)∧r'.a.a.e=.ptr (aa H + 1) 0∧r'.a.a.f=.bool true)
section
variable {M:Memo}
theorem vS {H:Heap}{B:AObj}{nm:List Nat}{L:List DeR}(hL:L.length≤90000):∀ (d i:Nat),d + i=L.length→∀ (fu:Nat),d < fu→∀ (G:Heap) (r:RG),
  (r.a.a.b=.str nm∧r.a.a.e=.ptr (aa H + 1) 0∧r.a.b.b=allZ L∧r.a.b.c=.int .i64 (L.length:Int)∧r.a.b.d=.int .i64 (i:Int)) →
  XF H B L (au (ov (orc CC M)) fu r [] ⟨H ++ [B,.cells zD] ++ G,aa H⟩):=by
 intro d
 induction d with
 | zero =>
   intro i hi fu hfu G r ⟨h1,h4,h9,h10,h11⟩;obtain ⟨fu',rfl⟩ : ∃ f,fu=f + 1:=⟨fu - 1,by omega⟩
   have:i=L.length:=by omega
   subst this;have hc:decide ((L.length:Int) < (L.length:Int))=false:=by simp
   simp only[au,ov,wC,SIM,ST0,h10,h11,hc];exact .inl ⟨_,G,rfl,by first | rfl | exact h4⟩
 | succ d ih =>
   intro i hi fu hfu G r ⟨h1,h4,h9,h10,h11⟩;obtain ⟨fu',rfl⟩ : ∃ f,fu=f + 1:=⟨fu - 1,by omega⟩
   have hlt:i < L.length:=by omega
   have hc:decide ((i:Int) < (L.length:Int))=true:=by simp;omega
   have hg:L[i]?=some L[i]:=by simp[hlt]
   have hmem:=List.getElem_mem hlt;generalize L[i]=a at hg hmem;have hat:=sy hg;have ha:cA (i:Int) 1=((i + 1:Nat):Int):=bp i 1 (by unfold natMax;omega)
   have hob:aa (H ++ [B,.cells zD] ++ G)=aa H + 2 + aa G:=by rw[aI,aI];rfl
   have hset:∀ K c,aj (H ++ [B,.cells zD] ++ G ++ K) (aa H + 1) c=H ++ [B,c] ++ (G ++ K):=fun K c=>by
    rw[List.append_assoc,List.append_assoc,fF];rw[List.append_assoc];rfl
   have hget:∀ K,ae (H ++ [B,.cells zD] ++ G ++ K) (aa H + 1)=some (.cells zD):=fun K=>by
    rw[List.append_assoc,List.append_assoc,bj];rfl
   cases hs:strEq a.s nm with
   | true =>
     generalize hHc:H ++ [B,.cells zD] ++ G=Hc at *;simp only[au,ov,wC,Ac,FQ,AN,SIM,ST0,ST1,h1,h4,h9,h10,h11,hc,hat,hs,hget,hset,Nat.reduceAdd,Nat.reduceLeDiff];exact .inr ⟨_,_,a,hmem,rfl,by first | rfl | exact h4,rfl⟩
   | false =>
     have key:=ih (i + 1) (by omega) fu' (by omega) (G ++ [.cells a.l])
     rw[← List.append_assoc] at key;generalize hHc:H ++ [B,.cells zD] ++ G=Hc at *;simp only[au,ov,wC,Ac,FQ,AN,Pq,SIM,ST0,ST1,h1,h4,h9,h10,h11,hc,hat,hs,ha,Nat.reduceAdd,Nat.reduceLeDiff];exact key _ ⟨by first | rfl | exact h1,by first | rfl | exact h4,by first | rfl | exact h9,by first | rfl | exact h10,rfl⟩
theorem bz176:ar CC 93 []=some (.agg zD):=by kernel_rfl
theorem Cz (m:ia M)(d:NdR)(hl:(dw d).length≤90000)(hc:∀ x ∈ dw d,x.c=[])(nm:List Nat)(H:Heap) :
  ∃ (s:List Nat) (p:Int) (b f o t:Bool),orc CC M 90 [d.v,.str nm] H=some (.ret (.tuple [.agg [.str s,.int .i64 p,.bool b,.bool f,.str [],.bool o],.bool t]) H (aa H)):=by
 have A:=uY m d (by omega)
 have hb:=pi d;have e0:(envOf [d.v,.str nm] 0 env0).a.a.a=d.v:=rfl;have e1:(envOf [d.v,.str nm] 0 env0).a.a.b=.str nm:=rfl;have lp:=vS (M:=M) (H:=H) (B:=eT d) (nm:=nm) hl (dw d).length 0 rfl 100000 (by omega) []
 rw[List.append_nil] at lp
 obtain ⟨r0,hr0,hpre⟩ : ∃ r,(r.a.a.b=.str nm∧r.a.a.e=.ptr (aa H + 1) 0∧r.a.b.b=allZ (dw d)∧r.a.b.c=.int .i64 ((dw d).length:Int)∧r.a.b.d=.int .i64 ((0:Nat):Int)) ∧
   z90.sh (orc CC M) (envOf [d.v,.str nm] 0 env0) [] ⟨H,aa H⟩=dQ (ac (xc (orc CC M)) retZ) (du 0 (au (ov (orc CC M)) 100000 r [] ⟨H ++ [eT d,.cells zD],aa H⟩)):=by
  generalize envOf [d.v,.str nm] 0 env0=R at e0 e1;have hln:=mq (dw d);simp only[z90,NF,PC,SIM,ST0,e0,e1,hb,A,hln,Nat.reduceAdd,Nat.reduceLeDiff];exact ⟨_,⟨by first | rfl | exact e1,rfl,rfl,rfl,rfl⟩,rfl⟩
 have fin:∀ (r' : RG) (c:List AV) (G:Heap) (s:List Nat) (p:Int) (b f o t:Bool),c=[.str s,.int .i64 p,.bool b,.bool f,.str [],.bool o]→r'.a.a.e=.ptr (aa H + 1) 0→r'.a.a.f=.bool t →
   lS CC 90 (aa H) z90 (some (.ret,r',[],⟨H ++ [eT d,.cells c] ++ G,aa H⟩))=some (.ret (.tuple [.agg [.str s,.int .i64 p,.bool b,.bool f,.str [],.bool o],.bool t]) H (aa H)):=by
  intro r' c G s p b f o t hcc h4 h5;subst hcc;have hg:ae (H ++ [eT d,.cells [.str s,.int .i64 p,.bool b,.bool f,.str [],.bool o]] ++ G) (aa H + 1)=some (.cells [.str s,.int .i64 p,.bool b,.bool f,.str [],.bool o]):=by rw[List.append_assoc,bj];rfl
  have ht:bG (aa H) (H ++ [eT d,.cells [.str s,.int .i64 p,.bool b,.bool f,.str [],.bool o]] ++ G)=H:=by rw[List.append_assoc,cn]
  have hgc:=iw (k:=CC.keep 90) (b:=aa H) (v:=.tuple [.agg [.str s,.int .i64 p,.bool b,.bool f,.str [],.bool o],.bool t]) (hp:=H ++ [eT d,.cells [.str s,.int .i64 p,.bool b,.bool f,.str [],.bool o]] ++ G) rfl;rw[ht] at hgc;generalize H ++ [eT d,.cells [.str s,.int .i64 p,.bool b,.bool f,.str [],.bool o]] ++ G=Hc at *;simp only[z90,SIM,ST0,h4,h5,hg,hgc,Nat.reduceAdd,Nat.reduceLeDiff]
 rcases lp r0 hr0 with ⟨r',G,h1,h4⟩ | ⟨r',G,c,hcm,h1,h4,h5⟩
 ·refine ⟨[],0,false,false,false,false,aL (z:=z90) (m _ _ rfl) (by kernel_rfl) rfl ?_⟩
  rw[hpre,h1];have hg:ae (H ++ [eT d,.cells zD] ++ G) (aa H + 1)=some (.cells zD):=by rw[List.append_assoc,bj];rfl
  have hself:=eb hg
  obtain ⟨r2,h42,h52,hr2⟩ : ∃ r2,r2.a.a.e=.ptr (aa H + 1) 0∧r2.a.a.f=.bool false∧dQ (ac (xc (orc CC M)) retZ) (du 0 (some (.exit 0,r',[],⟨H ++ [eT d,.cells zD] ++ G,aa H⟩)))=some (.ret,r2,[],⟨H ++ [eT d,.cells zD] ++ G,aa H⟩):=by
   generalize H ++ [eT d,.cells zD] ++ G=Hc at *;simp only[xc,SIM,ST0,h4,bz176,hg,hself,Nat.reduceAdd,Nat.reduceLeDiff];exact ⟨_,by first | rfl | exact h4,rfl,rfl⟩
  rw[hr2];exact fin r2 zD G [] 0 false false false false rfl h42 h52
 ·refine ⟨c.s,c.p,c.b,c.f,c.o,true,aL (z:=z90) (m _ _ rfl) (by kernel_rfl) rfl ?_⟩
  rw[hpre,h1];have hc0:=hc c hcm;have:=fin r' c.l G c.s c.p c.b c.f c.o true (by rw[show c.l=[.str c.s,.int .i64 c.p,.bool c.b,.bool c.f,.str c.c,.bool c.o] from rfl,hc0]) h4 h5
  simpa only[SIM] using this
end
theorem Ef (d:NdR):AV.same d.v d.v=true:=by
 have:=nd_same [d];simp only[List.map_cons,List.map_nil,sameL,Bool.and_true] at this;exact this
abbrev gv0:AV:=.sl 2 [] .lit
abbrev zq (d:NdR)(mv mf base:AV):List AV:=[.str d.s,.int .i64 (d.p:Int),deZ d.ins,deZ d.outs,deZ d.vars,oc d.eqs,mv,mf,base]
theorem y4 (a b c d e f g h i:AV):ae [a,b,c,d,e,f,g,h,i] 6=some g:=rfl
theorem WM (a b c d e f g h i:AV):ae [a,b,c,d,e,f,g,h,i] 7=some h:=rfl
theorem WR (a b c d e f g h i:AV):ae [a,b,c,d,e,f,g,h,i] 8=some i:=rfl
theorem p9 (a b c d e f g h i:AV):ex (some 6) [a,b,c,d,e,f,g,h,i] 0=some (.agg [a,b,c,d,e,f]):=rfl
theorem cc254:∃ e,CC.P.underlying 138=some (.slice e)∧e=153:=⟨_,by kernel_rfl,rfl⟩
theorem len254:bn CC 138 .nils=some (.int .i64 0):=by
 obtain ⟨e,hu,_⟩:=cc254;rw[dH];simp[ew,hu]
theorem bsl140_0:aP CC 116 0 []=some gv0:=by kernel_rfl
def mc (v:AV):Prop:=v=.nils∨v=gv0
theorem Ri (f:Nat){base:AV}(h:mc base)(hp:Heap)(e:Nat):aq CC f 116 gv0 base ⟨hp,e⟩=some (gv0,⟨hp,e⟩):=by
 rcases h with rfl | rfl
 ·exact kF sl140 f (by simp)
 ·obtain ⟨el,i,z,h1,h2,h3,h4,h5,h6,h7,h8⟩:=sl140
  have hne:¬ (i.size=0∨i.bytes=0∨z.cells.length ≠ i.size∨([]:List AV).all (bt i.size)=false∨2 ^ 16 < i.bytes):=by
   rw[h4,h7];simp;omega
  simp only[aq,h1,h2,h3,ba,h4,if_true];rw[h4] at hne;rw[if_neg hne];simp
section
variable {M:Memo}{d:NdR}
theorem of_ok (m:ia M)(hl:(dw d).length≤90000)(hc:∀ x ∈ dw d,x.c=[])(nm:List Nat)(k:Int)(H:Heap):orc CC M 85 [d.v,.str nm,.int .i64 k] H=some (.ret (.tuple [.nils,.bool true]) H (aa H)):=by
 obtain ⟨s,p,b,f,o,t,N⟩:=Cz m d hl hc nm (H ++ [eT d]);have hb:=pi d;refine aL (z:=z85) (m _ _ rfl) (by kernel_rfl) rfl ?_
 have e0:(envOf [d.v,.str nm,.int .i64 k] 0 env0).a.a.a=d.v:=rfl;have e1:(envOf [d.v,.str nm,.int .i64 k] 0 env0).a.a.b=.str nm:=rfl;generalize envOf [d.v,.str nm,.int .i64 k] 0 env0=R at e0 e1;have hse:strEq ([]:List Nat) []=true:=rfl;simp only[z85,Nz,MU,N6,Oy,SIM,ST0,ST1,e0,e1,hb,N,hse,Nat.reduceAdd,Nat.reduceLeDiff]
theorem T6 (m:ia M)(hl:(dw d).length≤90000)(hc:∀ x ∈ dw d,x.c=[])(nm:List Nat)(H:Heap):orc CC M 75 [d.v,.str nm] H=some (.ret (.tuple [.nils,.bool true]) H (aa H)):=by
 have A:=uY m d (by omega) (H ++ [eT d])
 have F:=of_ok m hl hc nm ((dw d).length:Int) (H ++ [eT d]);have hb:=pi d;have hs:=Ef d;have hln:=mq (dw d);refine aL (z:=z75) (m _ _ rfl) (by kernel_rfl) rfl ?_
 have e0:(envOf [d.v,.str nm] 0 env0).a.a.a=d.v:=rfl;have e1:(envOf [d.v,.str nm] 0 env0).a.a.b=.str nm:=rfl;generalize envOf [d.v,.str nm] 0 env0=R at e0 e1;simp only[z75,Nl,Om,SIM,ST0,ST1,e0,e1,hb,A,F,hs,hln,Nat.reduceAdd,Nat.reduceLeDiff]
theorem RA (m:ia M)(hl:(dw d).length≤90000)(hc:∀ x ∈ dw d,x.c=[])(nm:List Nat){so:Nat}{mv mf base:AV}{H:Heap}(hs:ae H so=some (.cells (zq d mv mf base))):orc CC M 62 [.ptr so 0,.str nm] H=some (.ret .nils H (aa H)):=by
 have F:=T6 m hl hc nm H;refine aL (z:=z62) (m _ _ rfl) (by kernel_rfl) rfl ?_
 have e0:(envOf [.ptr so 0,.str nm] 0 env0).a.a.a=.ptr so 0:=rfl;have e1:(envOf [.ptr so 0,.str nm] 0 env0).a.a.b=.str nm:=rfl;generalize envOf [.ptr so 0,.str nm] 0 env0=R at e0 e1;simp only[z62,LN,Nr,OH,SIM,ST0,ST1,e0,e1,hs,p9,F,Nat.reduceAdd,Nat.reduceLeDiff]
theorem gr (m:ia M){so:Nat}{mv mf base:AV}(hb:mc base){H:Heap}(hs:ae H so=some (.cells (zq d mv mf base))):orc CC M 65 [.ptr so 0,.nils] H=some (.ret gv0 H (aa H)):=by
 refine aL (z:=z65) (m _ _ rfl) (by kernel_rfl) rfl ?_
 have e0:(envOf [.ptr so 0,.nils] 0 env0).a.a.a=.ptr so 0:=rfl;have e1:(envOf [.ptr so 0,.nils] 0 env0).a.a.b=.nils:=rfl;generalize envOf [.ptr so 0,.nils] 0 env0=R at e0 e1;have ha:=fun hp e=>Ri 65 hb hp e
 have hc:decide ((0:Int) < 0)=false:=by decide
 simp only[z65,PW,PN,MN,Ma,Lm,ME,Tq,SIM,ST0,ST1,e0,e1,hs,WR,bsl140_0,ha,len254,hc,Nat.reduceAdd,Nat.reduceLeDiff]
end
abbrev Tm (nd:List Nat)(at_:Int)(vars:Nat)(I O E Ms W S:AV)(size:Nat):List AV:=[.str nd,.int .i64 at_,.int .i64 (vars:Int),I,O,E,Ms,W,S,.int .i64 (size:Int)]
theorem R8 (a b c d e f g h i j:AV):ae [a,b,c,d,e,f,g,h,i,j] 2=some c∧ae [a,b,c,d,e,f,g,h,i,j] 5=some f∧ae [a,b,c,d,e,f,g,h,i,j] 6=some g∧ae [a,b,c,d,e,f,g,h,i,j] 7=some h∧ae [a,b,c,d,e,f,g,h,i,j] 8=some i∧ae [a,b,c,d,e,f,g,h,i,j] 9=some j:=⟨rfl,rfl,rfl,rfl,rfl,rfl⟩
theorem Xr (a b c d e f g h i j v:AV):cu [a,b,c,d,e,f,g,h,i,j] 2 [v]=[a,b,v,d,e,f,g,h,i,j]∧cu [a,b,c,d,e,f,g,h,i,j] 5 [v]=[a,b,c,d,e,v,g,h,i,j]∧cu [a,b,c,d,e,f,g,h,i,j] 6 [v]=[a,b,c,d,e,f,v,h,i,j]∧cu [a,b,c,d,e,f,g,h,i,j] 7 [v]=[a,b,c,d,e,f,g,v,i,j]∧cu [a,b,c,d,e,f,g,h,i,j] 8 [v]=[a,b,c,d,e,f,g,h,v,j]∧cu [a,b,c,d,e,f,g,h,i,j] 9 [v]=[a,b,c,d,e,f,g,h,i,v]:=⟨rfl,rfl,rfl,rfl,rfl,rfl⟩
section
variable {M:Memo}
theorem sf (m:ia M){bo uo:Nat}{LV:AV}{nd:List Nat}{at_:Int}{vars size:Nat}{I O E Ms W S:AV}(hv:vars < 1000000){H:Heap}(hb:ae H bo=some (.cells [.ptr uo 0,LV]))(hu:ae H uo=some (.cells (Tm nd at_ vars I O E Ms W S size))) :
  orc CC M 35 [.ptr bo 0] H=some (.ret (.int .i64 (vars:Int)) (aj H uo (.cells (Tm nd at_ (vars + 1) I O E Ms W S size))) (aa H)):=by
 refine aL (z:=z35) (m _ _ rfl) (by kernel_rfl) rfl ?_
 have e0:(envOf [.ptr bo 0] 0 env0).a.a.a=.ptr bo 0:=rfl;generalize envOf [.ptr bo 0] 0 env0=R at e0;have ha:cA (vars:Int) 1=((vars + 1:Nat):Int):=bp vars 1 (by unfold natMax;omega)
 have hs:eO ((vars + 1:Nat):Int) 1=(vars:Int):=by
  show eO (.ofNat (vars + 1)) (.ofNat 1)=_;have h1:Nat.ble 1 (vars + 1)=true:=by rw[dk];simp
  have h2:Nat.ble (vars + 1) natMax=true:=by rw[dk,decide_eq_true_eq];unfold natMax;omega
  simp only[eO,h1,h2,Bool.and_self,cond_true];rfl
 by_cases hbu:bo=uo
 ·subst hbu;rw[hb] at hu;simp at hu
 have hu2:=aO hu (.cells (Tm nd at_ (vars + 1) I O E Ms W S size));have hb2:∀ c,ae (aj H uo c) bo=some (.cells [.ptr uo 0,LV]):=fun c=>by rw[af hbu,hb]
 have hg:=fun a b c d e f g h i j=>(R8 a b c d e f g h i j).1
 have hp:=fun a b c d e f g h i j v=>(Xr a b c d e f g h i j v).1
 simp only[z35,MV,MJ,Mb,SIM,ST0,ST1,e0,hb,hb2,hu,hu2,hg,hp,ha,hs,Nat.reduceAdd,Nat.reduceLeDiff]
end
def nmA:AV→List Nat
 | .sl _ _ (.live id _)=>[id]
 | .rsl n _ _ _ _=>[n]
 | _=>[]
def LvI (uo:Nat)(H:Heap)(k:Nat)(V:AV)(xs:List AV):Prop:=(xs=[]∧V=.nils)∨(xs ≠ []∧∃ id g,V=.sl k xs (.live id g)∧ae H id=some (.lin g)∧uo < id∧aR (aa H) xs=true)
def RsI (uo:Nat)(H:Heap)(sz:Nat)(V:AV)(cells:List AV):Prop:=(cells=[]∧V=.nils)∨(∃ id n,V=.rsl id 0 n n sz∧0 < n∧ae H id=some (.cells cells)∧cells.length=n * sz∧cells.all AV.one=true∧aR (aa H) cells=true∧uo < id)
theorem LvI.mono {uo:Nat}{H H' : Heap}{k:Nat}{V:AV}{xs:List AV}(h:LvI uo H k V xs)(hl:aa H≤aa H')(hf:∀ q ∈ nmA V,q < aa H→ae H' q=ae H q):LvI uo H' k V xs:=by
 rcases h with h | ⟨h0,id,g,rfl,hg,hu,hw⟩
 ·exact .inl h
 ·exact .inr ⟨h0,id,g,rfl,by rw[hf id (by simp[nmA]) (by rw[ai];exact aT hg),hg],hu,cd hl _ hw⟩
theorem RsI.mono {uo:Nat}{H H' : Heap}{k:Nat}{V:AV}{xs:List AV}(h:RsI uo H k V xs)(hl:aa H≤aa H')(hf:∀ q ∈ nmA V,q < aa H→ae H' q=ae H q):RsI uo H' k V xs:=by
 rcases h with h | ⟨id,n,rfl,h0,hg,h1,h2,h3,hu⟩
 ·exact .inl h
 ·exact .inr ⟨id,n,rfl,h0,by rw[hf id (by simp[nmA]) (by rw[ai];exact aT hg),hg],h1,h2,cd hl _ h3,hu⟩
theorem LvI.lt {uo:Nat}{H:Heap}{k:Nat}{V:AV}{xs:List AV}(h:LvI uo H k V xs):∀ q ∈ nmA V,uo < q∧q < aa H:=by
 intro q hq
 rcases h with ⟨_,rfl⟩ | ⟨h0,id,g,rfl,hg,hu,hw⟩
 ·cases hq
 ·simp only[nmA,List.mem_singleton] at hq;subst hq;exact ⟨hu,by rw[ai];exact aT hg⟩
theorem RsI.lt {uo:Nat}{H:Heap}{k:Nat}{V:AV}{xs:List AV}(h:RsI uo H k V xs):∀ q ∈ nmA V,uo < q∧q < aa H:=by
 intro q hq
 rcases h with ⟨_,rfl⟩ | ⟨id,n,rfl,h0,hg,h1,h2,h3,hu⟩
 ·cases hq
 ·simp only[nmA,List.mem_singleton] at hq;subst hq;exact ⟨hu,by rw[ai];exact aT hg⟩
theorem E8 {T k:Nat}(hT:tV T k)(f:Nat){uo:Nat}{H:Heap}{V x:AV}{xs:List AV}(h:LvI uo H k V xs)(hx:[x].all (bt k)=true)(hw:x.low (aa H)=true)(hl:xs.length + 1≤2 ^ 24)(hu:uo < aa H) :
  ∃ V' H',(∀ e lin,aq CC f T V (.sl k [x] lin) ⟨H,e⟩=some (V',⟨H',e⟩))∧LvI uo H' k V' (xs ++ [x])∧aa H≤aa H'∧(∀ q,q < aa H→q ∉ nmA V→ae H' q=ae H q)∧(∀ q ∈ nmA V',q ∈ nmA V∨aa H≤q):=by
 rcases h with ⟨rfl,rfl⟩ | ⟨h0,id,g,rfl,hg,hu',hw'⟩
 ·refine ⟨.sl k [x] (.live (aa H) 0),H ++ [.lin 0],fun e lin=>rO hT f lin (by simp) hx (by simp),.inr ⟨by simp,aa H,0,rfl,by rw[aD];rfl,hu,?_⟩,by rw[aI];omega,fun q hq _=>?_,fun q hq=>?_⟩
  ·simp only[List.nil_append,aR,Bool.and_true];exact AV.low_mono (by rw[aI];omega) _ hw
  ·rw[ai] at hq;rw[az,az,List.getElem?_append_left hq]
  ·simp only[nmA,List.mem_singleton] at hq;exact .inr (by omega)
 ·refine ⟨.sl k (xs ++ [x]) (.live id (g + 1)),aj H id (.lin (g + 1)),fun e lin=>iW hT f lin (by simp) hx (by simpa using hl) hg,.inr ⟨by simp,id,g + 1,rfl,aO hg _,hu',?_⟩,by rw[an];exact Nat.le_refl _,fun q hq hn=>?_,fun q hq=>.inl hq⟩
  ·rw[an]
   have:∀ l:List AV,aR (aa H) l=true→aR (aa H) (l ++ [x])=true:=fun l=>by
    induction l with
    | nil=>intro _;simp[aR,hw]
    | cons a l ih=>intro h;simp only[aR,List.cons_append,Bool.and_eq_true] at h ⊢;exact ⟨h.1,ih h.2⟩
   exact this xs hw'
  ·rw[af (by simp only[nmA,List.mem_singleton] at hn;exact hn)]
theorem uX {uo off b k:Nat}{H:Heap}{V:AV}{xs cs:List AV}(h:LvI uo H k V xs)(hn:xs ≠ [])(hcs:ae H uo=some (.cells cs))(ho:off + 1≤aa cs)(hb:uo≤b) :
  ay 1 (.ptr uo off) V ⟨H,b⟩=some ⟨aj H uo (.cells (cu cs off [V])),uo⟩:=by
 rcases h with ⟨h0,_⟩ | ⟨h0,id,g,rfl,hg,hu,hw⟩
 ·exact absurd h0 hn
 ·have hid:id < aa H:=by rw[ai];exact aT hg
  have low:∀ L,AV.low L (.sl k xs (.live id g))=(aR L xs && decide (id < L)):=fun L=>by simp[AV.low,Lin.low]
  have e1:eH (aa H) (.sl k xs (.live id g))=true:=by rw[cg,low,hw];simpa using hid
  have e2:eH (uo + 1) (.sl k xs (.live id g))=false:=by rw[cg,low];simp;intro _;omega
  have e3:Nat.ble (Nat.add off 1) (aa cs)=true:=by rw[dk];simpa using ho
  have e4:min b uo=uo:=Nat.min_eq_right hb;have e5:Nat.beq (aa [AV.sl k xs (.live id g)]) 1=true:=rfl;have e6:List.all [AV.sl k xs (.live id g)] AV.one=true:=rfl;have e7:AV.cells (.sl k xs (.live id g))=[.sl k xs (.live id g)]:=rfl;simp only[ay,hcs,dP,e1,e3,e5,e6,e7,Bool.and_self,cond_true,ib,e2,cond_false,e4]
structure AtF where
 c:Bool
 n:Int
 v:Nat
abbrev AtF.av (a:AtF):AV:=.agg [.bool a.c,.int .i64 a.n,.int .i64 (a.v:Int)]
structure EqF where
 op:List Nat
 dst:Nat
 args:List AtF
 lin:Lin
 on:AV
abbrev EqF.av (q:EqF):AV:=.agg [.str q.op,.int .i64 (q.dst:Int),.sl 3 (q.args.map AtF.av) q.lin,q.on]
def EqF.ok (L:Nat)(q:EqF):Prop:=mc q.on∧q.lin.low L=true
theorem uF (l:List AtF):dt (l.map AtF.av)=true:=by
 induction l with
 | nil=>rfl
 | cons a l ih=>rw[List.map_cons,bH,ih];rfl
theorem ri {L:Nat}{q:EqF}(h:q.ok L):q.av.low L=true:=by
 obtain ⟨h1,h2⟩:=h;have h3:=dS (uF q.args) L;have h4:Lin.low L .lit=true:=rfl
 rcases h1 with h1 | h1 <;> simp[AV.low,aR,h1,h2,h3,h4]
theorem Jz (q:EqF)(h:mc q.on):[q.av].all (bt 4)=true:=by
 rcases h with h | h <;> simp[bt,AV.cells,AV.one,h]
def lV (k:Nat)(lin:Lin):List AV→AV
 | []=>.nils
 | x :: l=>.sl k (x :: l) lin
structure WtF where
 dst:Nat
 sp:Int
 pa:Int
 ah:List Int
 lin:Lin
 at_:Int
abbrev WtF.av (w:WtF):AV:=.agg [.int .i64 (w.dst:Int),.int .i64 w.sp,.int .i64 w.pa,lV 1 w.lin (w.ah.map fun n=>.int .i64 n),.int .i64 w.at_]
structure SpF where
 nd:List Nat
 args:List AtF
 al:Lin
 futs:List (Int × Int)
 fl:Lin
 at_:Int
abbrev y1 (o:Int × Int):AV:=.agg [.int .i64 o.1,.int .i64 o.2]
abbrev SpF.cs (s:SpF):List AV:=[.str s.nd,lV 3 s.al (s.args.map AtF.av),lV 2 s.fl (s.futs.map y1),.int .i64 s.at_]
structure UN where
 nd:List Nat
 at_:Int
 vars:Nat
 I:AV
 O:AV
 eqs:List EqF
 E:AV
 ms:List AV
 Ms:AV
 ws:List WtF
 W:AV
 sp:List SpF
 S:AV
 size:Nat
abbrev UN.c (u:UN):List AV:=Tm u.nd u.at_ u.vars u.I u.O u.E u.Ms u.W u.S u.size
def UN.ns (u:UN):List Nat:=nmA u.E ++ nmA u.Ms ++ nmA u.W ++ nmA u.S
structure UI (uo:Nat)(H:Heap)(u:UN):Prop where
 ob:ae H uo=some (.cells u.c)
 e:LvI uo H 4 u.E (u.eqs.map EqF.av)
 el:∀ q ∈ u.eqs,mc q.on
 m:RsI uo H 6 u.Ms u.ms
 w:LvI uo H 5 u.W (u.ws.map WtF.av)
 s:RsI uo H 4 u.S (u.sp.flatMap SpF.cs)
 dj:(∀ q ∈ nmA u.E,q ∉ nmA u.Ms∧q ∉ nmA u.W∧q ∉ nmA u.S)∧(∀ q ∈ nmA u.Ms,q ∉ nmA u.W∧q ∉ nmA u.S)∧(∀ q ∈ nmA u.W,q ∉ nmA u.S)
 vl:u.vars + u.eqs.length + u.ms.length + u.ws.length + u.sp.length + u.size < 1000000
structure Gr (uo:Nat)(H:Heap)(ns:List Nat)(H' : Heap)(ns' : List Nat):Prop where
 len:aa H≤aa H'
 fr:∀ q,q < aa H→q ≠ uo→q ∉ ns→ae H' q=ae H q
 ns:∀ q ∈ ns',q ∈ ns∨aa H≤q
theorem Gr.refl {uo:Nat}{H:Heap}{ns:List Nat}:Gr uo H ns H ns:=⟨Nat.le_refl _,fun _ _ _ _=>rfl,fun _ h=>.inl h⟩
theorem Gr.trans {uo:Nat}{H H1 H2:Heap}{a b c:List Nat}(h:Gr uo H a H1 b)(h' : Gr uo H1 b H2 c):Gr uo H a H2 c:=by
 refine ⟨Nat.le_trans h.len h'.len,fun q hq hu hn=>?_,fun q hq=>?_⟩
 ·rw[h'.fr q (Nat.lt_of_lt_of_le hq h.len) hu (fun hb=>(h.ns q hb).elim hn (fun hl=>by omega)),h.fr q hq hu hn]
 ·rcases h'.ns q hq with hb | hl
  ·exact h.ns q hb
  ·exact .inr (Nat.le_trans h.len hl)
theorem Gr.ap {uo:Nat}{H K:Heap}{ns:List Nat}:Gr uo H ns (H ++ K) ns:=by
 refine ⟨by rw[aI];omega,fun q hq _ _=>?_,fun _ h=>.inl h⟩
 rw[ai] at hq;rw[az,az,List.getElem?_append_left hq]
theorem UI.lt {uo:Nat}{H:Heap}{u:UN}(h:UI uo H u):∀ q ∈ u.ns,uo < q∧q < aa H:=by
 intro q hq;unfold UN.ns at hq;simp only[List.mem_append] at hq
 rcases hq with ((hq | hq) | hq) | hq
 ·exact h.e.lt q hq
 ·exact h.m.lt q hq
 ·exact h.w.lt q hq
 ·exact h.s.lt q hq
theorem UI.uo {uo:Nat}{H:Heap}{u:UN}(h:UI uo H u):uo < aa H:=by rw[ai];exact aT h.ob
theorem UI.to {uo:Nat}{H H' : Heap}{u:UN}(h:UI uo H u)(hl:aa H≤aa H')(hf:∀ q,q < aa H→q=uo∨q ∈ u.ns→ae H' q=ae H q):UI uo H' u:=by
 refine ⟨by rw[hf uo h.uo (.inl rfl)];exact h.ob,h.e.mono hl (fun q hq hlt=>hf q hlt (.inr ?_)),h.el,h.m.mono hl (fun q hq hlt=>hf q hlt (.inr ?_)),h.w.mono hl (fun q hq hlt=>hf q hlt (.inr ?_)),h.s.mono hl (fun q hq hlt=>hf q hlt (.inr ?_)),h.dj,h.vl⟩ <;>
 (unfold UN.ns;simp only[List.mem_append];simp[hq])
theorem UI.ap {uo:Nat}{H K:Heap}{u:UN}(h:UI uo H u):UI uo (H ++ K) u :=
 h.to (by rw[aI];omega) (fun q hq _=>by rw[ai] at hq;rw[az,az,List.getElem?_append_left hq])
theorem dV {u:UN}{q:Nat}:q ∈ u.ns ↔ q ∈ nmA u.E∨q ∈ nmA u.Ms∨q ∈ nmA u.W∨q ∈ nmA u.S:=by
 unfold UN.ns;simp only[List.mem_append,or_assoc]
theorem UI.setv {uo:Nat}{H:Heap}{u:UN}(h:UI uo H u){v s:Nat}{i o:AV}(hv:v + u.eqs.length + u.ms.length + u.ws.length + u.sp.length + s < 1000000) :
  UI uo (aj H uo (.cells ({ u with vars:=v,size:=s,I:=i,O:=o }:UN).c)) { u with vars:=v,size:=s,I:=i,O:=o }:=by
 have hl:aa H≤aa (aj H uo (.cells ({ u with vars:=v,size:=s,I:=i,O:=o }:UN).c)):=by rw[an];exact Nat.le_refl _
 have hf:∀ q,uo < q→ae (aj H uo (.cells ({ u with vars:=v,size:=s,I:=i,O:=o }:UN).c)) q=ae H q:=fun q hq=>af (by omega) _
 exact ⟨aO h.ob _,h.e.mono hl (fun q hq _=>hf q (h.e.lt q hq).1),h.el,h.m.mono hl (fun q hq _=>hf q (h.m.lt q hq).1),h.w.mono hl (fun q hq _=>hf q (h.w.lt q hq).1),h.s.mono hl (fun q hq _=>hf q (h.s.lt q hq).1),h.dj,hv⟩
theorem Gr.put {uo:Nat}{H:Heap}{ns:List Nat}(o:AObj):Gr uo H ns (aj H uo o) ns :=
 ⟨by rw[an];exact Nat.le_refl _,fun q _ hq _=>af hq _,fun _ h=>.inl h⟩
theorem H8 {H:Heap}{bo uo:Nat}{u:UN}{LV:AV}(hU:UI uo H u)(hb:ae H bo=some (.cells [.ptr uo 0,LV])):bo ≠ uo:=by
 intro h;rw[h,hU.ob] at hb;simp at hb
section
variable {M:Memo}
theorem pY (m:ia M){bo uo:Nat}{LV:AV}{H:Heap}{u:UN}(hU:UI uo H u)(hb:ae H bo=some (.cells [.ptr uo 0,LV]))(hv:u.vars + u.eqs.length + u.ms.length + u.ws.length + u.sp.length + u.size + 1 < 1000000) :
  ∃ H1,orc CC M 35 [.ptr bo 0] H=some (.ret (.int .i64 (u.vars:Int)) H1 (aa H))∧UI uo H1 { u with vars:=u.vars + 1 }∧Gr uo H u.ns H1 u.ns∧aa H1=aa H :=
 ⟨_,sf m (by omega) hb hU.ob,hU.setv (v:=u.vars + 1) (s:=u.size) (by omega),Gr.put _,an _ _ _⟩
theorem Fs (op:List Nat)(v:Int)(xs:List AV)(lin:Lin){on:AV}(h:mc on):ar CC 124 [(0,.str op),(1,.int .i64 v),(2,.sl 3 xs lin),(3,on)]=some (.agg [.str op,.int .i64 v,.sl 3 xs lin,on]):=by
 rcases h with rfl | rfl <;> kernel_rfl
theorem AZ (op:List Nat)(v:Int)(xs:List AV)(lin:Lin){on:AV}(h:mc on):aP CC 62 1 [(0,.agg [.str op,.int .i64 v,.sl 3 xs lin,on])]=some (.sl 4 [.agg [.str op,.int .i64 v,.sl 3 xs lin,on]] .lit):=by
 rcases h with rfl | rfl <;> kernel_rfl
theorem Ju (v:Int):ar CC 97 [(2,.int .i64 v)]=some (.agg [.bool false,.int .i64 0,.int .i64 v]):=by kernel_rfl
theorem UI.addE {uo:Nat}{H:Heap}{u:UN}(h:UI uo H u)(f:Nat)(q:EqF)(hq:q.ok (aa H))(hv:u.vars + u.eqs.length + u.ms.length + u.ws.length + u.sp.length + u.size + 1 < 1000000) :
  ∃ V' H2,(∀ e lin,aq CC f 62 u.E (.sl 4 [q.av] lin) ⟨H,e⟩=some (V',⟨H2,e⟩))∧ae H2 uo=some (.cells u.c)∧aa H≤aa H2∧(∀ r,r < aa H→r ∉ nmA u.E→ae H2 r=ae H r) ∧
    (∀ b,uo≤b→ay 1 (.ptr uo 5) V' ⟨H2,b⟩=some ⟨aj H2 uo (.cells ({ u with eqs:=u.eqs ++ [q],E:=V' }:UN).c),uo⟩) ∧
    UI uo (aj H2 uo (.cells ({ u with eqs:=u.eqs ++ [q],E:=V' }:UN).c)) { u with eqs:=u.eqs ++ [q],E:=V' }∧Gr uo H u.ns (aj H2 uo (.cells ({ u with eqs:=u.eqs ++ [q],E:=V' }:UN).c)) ({ u with eqs:=u.eqs ++ [q],E:=V' }:UN).ns:=by
 obtain ⟨V',H2,a1,a2,a3,a4,a5⟩:=E8 sl83 f h.e (Jz q hq.1) (ri hq) (by rw[List.length_map];omega) h.uo
 have hu2:ae H2 uo=some (.cells u.c):=by rw[a4 uo h.uo (fun hm=>by have:=(h.e.lt _ hm).1;omega),h.ob]
 have hE' : ({ u with eqs:=u.eqs ++ [q],E:=V' }:UN).eqs.map EqF.av=u.eqs.map EqF.av ++ [q.av]:=by simp
 have st:=fun b hb=>uX (b:=b) (off:=5) a2 (by simp) hu2 (by rw[ai];simp) hb
 have hl:aa H≤aa (aj H2 uo (.cells ({ u with eqs:=u.eqs ++ [q],E:=V' }:UN).c)):=by rw[an];exact a3
 have hf:∀ r,r < aa H→uo < r→r ∉ nmA u.E→ae (aj H2 uo (.cells ({ u with eqs:=u.eqs ++ [q],E:=V' }:UN).c)) r=ae H r:=fun r hr hu hn=>by rw[af (by omega),a4 r hr hn]
 have djm:∀ r ∈ nmA u.Ms,r ∉ nmA u.E:=fun r hr hn=>(h.dj.1 r hn).1 hr
 have djw:∀ r ∈ nmA u.W,r ∉ nmA u.E:=fun r hr hn=>(h.dj.1 r hn).2.1 hr
 have djs:∀ r ∈ nmA u.S,r ∉ nmA u.E:=fun r hr hn=>(h.dj.1 r hn).2.2 hr
 have hnew:∀ r ∈ nmA V',∀ V:AV,(∀ r ∈ nmA V,r ∉ nmA u.E∧r < aa H)→r ∉ nmA V:=fun r hr V hV hn=>by
  rcases a5 r hr with h1 | h1
  ·exact (hV r hn).1 h1
  ·have:=(hV r hn).2;omega
 refine ⟨V',H2,a1,hu2,a3,a4,fun b hb=>st b hb,⟨aO hu2 _,?_,?_,h.m.mono hl (fun r hr hlt=>hf r hlt (h.m.lt r hr).1 (djm r hr)),h.w.mono hl (fun r hr hlt=>hf r hlt (h.w.lt r hr).1 (djw r hr)),h.s.mono hl (fun r hr hlt=>hf r hlt (h.s.lt r hr).1 (djs r hr)),⟨fun r hr=>⟨?_,?_,?_⟩,h.dj.2.1,h.dj.2.2⟩,?_⟩,⟨hl,fun r hr hne hn=>?_,fun r hr=>?_⟩⟩
 ·rw[hE'];exact a2.mono (by rw[an];exact Nat.le_refl _) (fun r hr _=>af (by have:=(a2.lt r hr).1;omega) _)
 ·intro r hr
  rcases List.mem_append.1 hr with hr | hr
  ·exact h.el r hr
  ·simp only[List.mem_singleton] at hr;subst hr;exact hq.1
 ·exact hnew r hr u.Ms (fun r hr=>⟨djm r hr,(h.m.lt r hr).2⟩)
 ·exact hnew r hr u.W (fun r hr=>⟨djw r hr,(h.w.lt r hr).2⟩)
 ·exact hnew r hr u.S (fun r hr=>⟨djs r hr,(h.s.lt r hr).2⟩)
 ·simp only[List.length_append,List.length_singleton];omega
 ·rw[af hne,a4 r hr (fun hm=>hn (dV.2 (.inl hm)))]
 ·rcases dV.1 hr with h1 | h1
  ·exact (a5 r h1).imp (fun h2=>dV.2 (.inl h2)) id
  ·exact .inl (dV.2 (.inr h1))
theorem lO (a b c d e f g h i j:AV):ae [a,b,c,d,e,f,g,h,i,j] 5=some f:=rfl
theorem CT (m:ia M){bo uo:Nat}{LV:AV}{H:Heap}{u:UN}(hU:UI uo H u)(hb:ae H bo=some (.cells [.ptr uo 0,LV]))(hbn:bo ∉ u.ns)(hv:u.vars + u.eqs.length + u.ms.length + u.ws.length + u.sp.length + u.size + 2 < 1000000)
  (op:List Nat) (A:List AtF) {lin:Lin} {on:AV} (hon:mc on) (hlin:lin.low (aa H)=true) :
  ∃ H' E',orc CC M 81 [.ptr bo 0,.str op,on,.sl 3 (A.map AtF.av) lin] H=some (.ret (AtF.av ⟨false,0,u.vars⟩) H' uo) ∧
    UI uo H' { u with vars:=u.vars + 1,eqs:=u.eqs ++ [⟨op,u.vars,A,lin,on⟩],E:=E' }∧Gr uo H u.ns H' ({ u with vars:=u.vars + 1,eqs:=u.eqs ++ [⟨op,u.vars,A,lin,on⟩],E:=E' }:UN).ns:=by
 have hbu:=H8 hU hb;have hlb:bo < aa H:=by rw[ai];exact aT hb
 obtain ⟨H1,hP,U1,G1,hl1⟩:=pY m (H:=H ++ [.cells [.bool false,.int .i64 0,.int .i64 0]]) hU.ap (aw hb _) (by omega)
 have hl0:aa (H ++ [AObj.cells [.bool false,.int .i64 0,.int .i64 0]])=aa H + 1:=by rw[aI];rfl
 rw[hl0] at hl1;have hb1:ae H1 bo=some (.cells [.ptr uo 0,LV]):=by rw[G1.fr bo (by omega) hbu hbn];exact aw hb _
 have hz1:ae H1 (aa H)=some (.cells [.bool false,.int .i64 0,.int .i64 0]):=by
  rw[G1.fr (aa H) (by omega) (by have:=hU.uo;omega) (fun hm=>by have:=(hU.lt _ hm).2;omega),aD];rfl
 obtain ⟨V',H2,ha,hu2,hl2,hf2,hst,U3,G3⟩:=U1.addE 81 ⟨op,u.vars,A,lin,on⟩ ⟨hon,Lin.low_mono (by omega) _ hlin⟩ (by show u.vars + 1 + u.eqs.length + u.ms.length + u.ws.length + u.sp.length + u.size + 1 < 1000000;omega)
 have hb2:ae H2 bo=some (.cells [.ptr uo 0,LV]):=by rw[hf2 bo (by omega) (fun hm=>hbn (dV.2 (.inl hm))),hb1]
 have hst':=hst (min (aa H) (aa H + 1)) (by have:=hU.uo;omega)
 have hmm:min (aa H) (aa H + 1)=aa H:=Nat.min_eq_left (by omega)
 rw[hmm] at hst';have hz3:=G3.fr (aa H) (by omega) (by have:=hU.uo;omega) (fun hm=>by have:=(hU.lt _ hm).2;omega)
 rw[hz1] at hz3;have hE:=U1.ob;generalize hH3:aj H2 uo (.cells ({ ({ u with vars:=u.vars + 1 }:UN) with eqs:=({ u with vars:=u.vars + 1 }:UN).eqs ++ [⟨op,u.vars,A,lin,on⟩],E:=V' }:UN).c)=H3 at hst' U3 G3 hz3
 have hl3:aa H3=aa H2:=by rw[← hH3,an]
 refine ⟨aj H3 (aa H) (.cells [.bool false,.int .i64 0,.int .i64 (u.vars:Int)]),V',aL (z:=z81) (m _ _ rfl) (by kernel_rfl) rfl ?_,U3.to (by rw[an];exact Nat.le_refl _) (fun q hq hn=>af ?_ _),?_⟩
 ·have e0:(envOf [.ptr bo 0,.str op,on,.sl 3 (A.map AtF.av) lin] 0 env0).a.a.a=.ptr bo 0:=rfl;have e1:(envOf [.ptr bo 0,.str op,on,.sl 3 (A.map AtF.av) lin] 0 env0).a.a.b=.str op:=rfl;have e2:(envOf [.ptr bo 0,.str op,on,.sl 3 (A.map AtF.av) lin] 0 env0).a.a.c=on:=rfl;have e3:(envOf [.ptr bo 0,.str op,on,.sl 3 (A.map AtF.av) lin] 0 env0).a.a.d=.sl 3 (A.map AtF.av) lin:=rfl;generalize envOf [.ptr bo 0,.str op,on,.sl 3 (A.map AtF.av) lin] 0 env0=R at e0 e1 e2 e3;have hsm:AV.same (.ptr uo 0) (.ptr uo 0)=true:=by simp[AV.same]
  have h142:=fun v=>Fs op v (A.map AtF.av) lin hon
  have h83:=fun v=>AZ op v (A.map AtF.av) lin hon
  have hgc:=fun hp=>eW (keep:=CC.keep 81) (base:=aa H) (e:=uo) (v:=AtF.av ⟨false,0,u.vars⟩) (hp:=hp) (by have:=hU.uo;omega)
  have hzs:=fun c=>aO hz3 c
  simp only[z81,Ng,Og,LT,Qm,SIM,ST0,ST1,e0,e1,e2,e3,hP,hl0,hmm,hb1,hE,hb2,lO,h142,h83,ha,hsm,hst',Ju,hz3,hzs,hgc,Nat.reduceAdd,Nat.reduceLeDiff]
 ·rintro rfl
  rcases hn with h1 | h1
  ·have:=hU.uo;omega
  ·rcases G3.ns _ h1 with h2 | h2
   ·have:=(hU.lt _ h2).2;omega
   ·omega
 ·have G4:Gr uo H u.ns H3 _:=(Gr.ap.trans G1).trans G3;refine ⟨by rw[an];exact G4.len,fun q hq hu hn=>?_,G4.ns⟩
  rw[af (by omega),G4.fr q hq hu hn]
end
def WT (T k:Nat):Prop:=∃ e i z,bE CC T=some e∧CC.P.info? e=some i∧ck CC e=some z∧i.size=k∧1 < k∧(0 < i.bytes∧i.bytes≤65536)∧z.cells.length=k∧∀ f,CC.mutT f T=true
theorem SU {T k:Nat}(h:Tl T=some (k,true,k))(hk:1 < k)(hm:∀ f,CC.mutT f T=true):WT T k:=by
 unfold Tl at h
 split at h
 ·rename_i e he
  split at h
  ·rename_i i z hi hz;simp only[SJ,PJ,decide_eq_true_eq] at h;exact ⟨e,i,z,he,hi,hz,h.1,hk,h.2.1,h.2.2,hm⟩
  ·cases h
 ·cases h
theorem rs84:WT 63 6:=SU (by kernel_rfl) (by decide) (fun f=>rfl)
theorem Iy {k:Nat}{cs:List AV}(hk:1 < k)(hl:cs.length=k):bR k 1 cs=[.agg cs]:=by
 simp only[bR];rw[if_neg (by omega),← hl,List.take_length]
theorem Sm {T k:Nat}(hT:WT T k)(f:Nat){uo b:Nat}{H:Heap}{V:AV}{cells cs:List AV}(h:RsI uo H k V cells)(hb:ae H b=some (.cells cs))(hc:cs.length=k)(ho:cs.all AV.one=true)(hw:aR (aa H) cs=true)(hl:cells.length + k≤2 ^ 20)(hu:uo < aa H)(hbn:b ∉ nmA V) :
  ∃ V' H',(∀ e,aq CC f T V (.rsl b 0 1 1 k) ⟨H,e⟩=some (V',⟨H',e⟩))∧RsI uo H' k V' (cells ++ cs)∧(∃ n,V'=.rsl (aa H) 0 n n k∧(cells ++ cs).length=n * k)∧aa H'=aa H + 1∧(∀ q,q < aa H→q ∉ nmA V→ae H' q=ae H q)∧(∀ q ∈ nmA V',q ∈ nmA V∨aa H≤q):=by
 obtain ⟨el,i,z,h1,h2,h3,h4,h5,h6,h7,h8⟩:=hT;rw[az] at hb
 have hel:ba k (.rsl b 0 1 1 k) H=some [.agg cs]:=by
  simp only[ba,hb];rw[if_pos ⟨by omega,trivial,ho⟩,List.drop_zero,Iy h5 hc]
 have hok:[AV.agg cs].all (bt k)=true:=by
  simp[bt,AV.cells,hc];exact List.all_eq_true.1 ho
 have hcs:aR H.length [.agg cs]=true:=by rw[← ai];simp[aR,AV.low,hw]
 rcases h with ⟨rfl,rfl⟩ | ⟨id,n,rfl,hn0,hg,hln,hone,hlow,hui⟩
 ·refine ⟨.rsl (aa H) 0 1 1 k,H ++ [.cells cs],fun e=>?_,.inr ⟨aa H,1,rfl,by omega,by rw[aD];rfl,by simpa using hc,ho,cd (by rw[aI];omega) _ hw,hu⟩,⟨1,rfl,by simpa using hc⟩,by rw[aI];rfl,fun q hq _=>?_,fun q hq=>?_⟩
  ·have hne:¬ (i.size=0∨i.bytes=0∨z.cells.length ≠ i.size∨[AV.agg cs].all (bt i.size)=false∨2 ^ 16 < i.bytes):=by
    rw[h4,hok,h7];simp;omega
   have hel0:ba k .nils H=some []:=rfl;simp only[aq,h1,h2,h3,h4,hel,hel0];rw[h4] at hne;rw[if_neg hne];have hlow0:aR H.length []=true:=rfl;simp[h8,ai,hlow0,hcs,am,AV.cells]
  ·rw[ai] at hq;rw[az,az,List.getElem?_append_left hq]
  ·simp only[nmA,List.mem_singleton] at hq;exact .inr (by omega)
 ·have hid:id < aa H:=by rw[ai];exact aT hg
  rw[az] at hg;have hch:=dY (sz:=k) (n:=n) (cs:=cells) (by omega) (by omega) hone
  have hft:am (bR k n cells)=cells:=by rw[hch.1,← hln,List.take_length]
  have hel0:ba k (.rsl id 0 n n k) H=some (bR k n cells):=by
   simp only[ba,hg];rw[if_pos ⟨by omega,trivial,hone⟩,List.drop_zero]
  refine ⟨.rsl (aa H) 0 (n + 1) (n + 1) k,aj H id .gone ++ [.cells (cells ++ cs)],fun e=>?_,.inr ⟨aa H,n + 1,rfl,by omega,?_,?_,?_,?_,hu⟩,⟨n + 1,rfl,?_⟩,by rw[aI,an];rfl,fun q hq hn=>?_,fun q hq=>?_⟩
  ·have hne:¬ (i.size=0∨i.bytes=0∨z.cells.length ≠ i.size∨[AV.agg cs].all (bt i.size)=false∨2 ^ 16 < i.bytes):=by
    rw[h4,hok,h7];simp;omega
   have hl2:(bR k n cells).length + 1≤2 ^ 24:=by
    rw[hch.2];have:n * 1≤n * k:=Nat.mul_le_mul_left _ (by omega)
    omega
   have hlc:aR H.length (bR k n cells)=true:=by
    have:∀ (m:Nat) (c:List AV),aR H.length c=true→m * k≤c.length→aR H.length (bR k m c)=true:=by
     intro m
     induction m with
     | zero=>intro c _ _;rfl
     | succ m ih =>
       intro c hcl hm;simp only[bR];rw[if_neg (by omega)]
       have hsp:c=c.take k ++ c.drop k:=(List.take_append_drop k c).symm
       have hap:∀ a b:List AV,aR H.length (a ++ b)=true→aR H.length a=true∧aR H.length b=true:=by
        intro a
        induction a with
        | nil=>intro b hb;exact ⟨rfl,hb⟩
        | cons x a iha =>
          intro b hb;simp only[List.cons_append,aR,Bool.and_eq_true] at hb ⊢;exact ⟨⟨hb.1,(iha b hb.2).1⟩,(iha b hb.2).2⟩
       rw[hsp] at hcl;have h9:=hap _ _ hcl;simp only[aR,AV.low,h9.1,Bool.true_and];exact ih _ h9.2 (by rw[List.length_drop,Nat.add_one_mul] at *;omega)
    exact this n cells (by rw[← ai];exact hlow) (by omega)
   simp only[aq,h1,h2,h3,h4,hel,hel0];rw[h4] at hne;rw[if_neg hne];have:am [.agg cs]=cs:=by simp[am,AV.cells]
   simp[hl2,hlc,hcs,de,hft,this,ai,aM]
  ·rw[← an H id .gone,aD];rfl
  ·rw[List.length_append,hln,hc,Nat.add_one_mul]
  ·rw[List.all_append,hone,ho];rfl
  ·have hap:∀ (L:Nat) (a b:List AV),aR L a=true→aR L b=true→aR L (a ++ b)=true:=by
    intro L a
    induction a with
    | nil=>intro b _ hb;exact hb
    | cons x a iha =>
      intro b ha hb;simp only[List.cons_append,aR,Bool.and_eq_true] at ha ⊢;exact ⟨ha.1,iha b ha.2 hb⟩
   have hle:aa H≤aa (aj H id .gone ++ [AObj.cells (cells ++ cs)]):=by rw[aI,an];omega
   exact hap _ _ _ (cd hle _ hlow) (cd hle _ hw)
  ·rw[List.length_append,hln,hc,Nat.add_one_mul]
  ·rw[ai] at hq;simp only[nmA,List.mem_singleton] at hn;rw[az,az,aM,List.getElem?_append_left (by simpa using hq),List.getElem?_set_ne (Ne.symm hn)]
  ·simp only[nmA,List.mem_singleton] at hq;exact .inr (by omega)
theorem qG {uo off b k r n:Nat}{H:Heap}{cs:List AV}(hr:r < aa H)(hu:uo < r)(hcs:ae H uo=some (.cells cs))(ho:off + 1≤aa cs)(hb:uo≤b) :
  ay 1 (.ptr uo off) (.rsl r 0 n n k) ⟨H,b⟩=some ⟨aj H uo (.cells (cu cs off [.rsl r 0 n n k])),uo⟩:=by
 have low:∀ L,AV.low L (.rsl r 0 n n k)=decide (r < L):=fun L=>by simp[AV.low]
 have e1:eH (aa H) (.rsl r 0 n n k)=true:=by rw[cg,low];simpa using hr
 have e2:eH (uo + 1) (.rsl r 0 n n k)=false:=by rw[cg,low];simp;omega
 have e3:Nat.ble (Nat.add off 1) (aa cs)=true:=by rw[dk];simpa using ho
 have e4:min b uo=uo:=Nat.min_eq_right hb;have e5:Nat.beq (aa [AV.rsl r 0 n n k]) 1=true:=rfl;have e6:List.all [AV.rsl r 0 n n k] AV.one=true:=rfl;have e7:AV.cells (.rsl r 0 n n k)=[.rsl r 0 n n k]:=rfl;simp only[ay,hcs,dP,e1,e3,e5,e6,e7,Bool.and_self,cond_true,ib,e2,cond_false,e4]
theorem UI.addM {uo b:Nat}{H:Heap}{u:UN}(h:UI uo H u)(f:Nat){cs:List AV}(hb:ae H b=some (.cells cs))(hc:cs.length=6)(ho:cs.all AV.one=true)(hw:aR (aa H) cs=true)(hbn:b ∉ nmA u.Ms)(hv:u.vars + u.eqs.length + u.ms.length + u.ws.length + u.sp.length + u.size + 6 < 1000000) :
  ∃ n H2,(∀ e,aq CC f 63 u.Ms (.rsl b 0 1 1 6) ⟨H,e⟩=some (.rsl (aa H) 0 n n 6,⟨H2,e⟩))∧(u.ms ++ cs).length=n * 6∧ae H2 uo=some (.cells u.c)∧aa H2=aa H + 1∧(∀ r,r < aa H→r ∉ nmA u.Ms→ae H2 r=ae H r) ∧
    (∀ b,uo≤b→ay 1 (.ptr uo 6) (.rsl (aa H) 0 n n 6) ⟨H2,b⟩=some ⟨aj H2 uo (.cells ({ u with ms:=u.ms ++ cs,Ms:=.rsl (aa H) 0 n n 6 }:UN).c),uo⟩) ∧
    UI uo (aj H2 uo (.cells ({ u with ms:=u.ms ++ cs,Ms:=.rsl (aa H) 0 n n 6 }:UN).c)) { u with ms:=u.ms ++ cs,Ms:=.rsl (aa H) 0 n n 6 } ∧
    Gr uo H u.ns (aj H2 uo (.cells ({ u with ms:=u.ms ++ cs,Ms:=.rsl (aa H) 0 n n 6 }:UN).c)) ({ u with ms:=u.ms ++ cs,Ms:=.rsl (aa H) 0 n n 6 }:UN).ns:=by
 obtain ⟨V',H2,a1,a2,⟨n,rfl,hn⟩,a3,a4,a5⟩:=Sm rs84 f h.m hb hc ho hw (by have:=h.vl;omega) h.uo hbn
 have hu2:ae H2 uo=some (.cells u.c):=by rw[a4 uo h.uo (fun hm=>by have:=(h.m.lt _ hm).1;omega),h.ob]
 have st:=fun b hb=>qG (k:=6) (r:=aa H) (n:=n) (b:=b) (off:=6) (H:=H2) (by omega) h.uo hu2 (by rw[ai];simp) hb
 have hl:aa H≤aa (aj H2 uo (.cells ({ u with ms:=u.ms ++ cs,Ms:=.rsl (aa H) 0 n n 6 }:UN).c)):=by rw[an];omega
 have hf:∀ r,r < aa H→uo < r→r ∉ nmA u.Ms→ae (aj H2 uo (.cells ({ u with ms:=u.ms ++ cs,Ms:=.rsl (aa H) 0 n n 6 }:UN).c)) r=ae H r:=fun r hr hu hn=>by rw[af (by omega),a4 r hr hn]
 have hlt:=h.lt;have nE:∀ r ∈ nmA u.E,r ∉ nmA u.Ms:=fun r hr=>(h.dj.1 r hr).1
 have nW:∀ r ∈ nmA u.W,r ∉ nmA u.Ms:=fun r hr hn=>(h.dj.2.1 r hn).1 hr
 have nS:∀ r ∈ nmA u.S,r ∉ nmA u.Ms:=fun r hr hn=>(h.dj.2.1 r hn).2 hr
 refine ⟨n,H2,a1,hn,hu2,a3,a4,fun b hb=>st b hb,⟨aO hu2 _,h.e.mono hl (fun r hr hlt=>hf r hlt (h.e.lt r hr).1 (nE r hr)),h.el,?_,h.w.mono hl (fun r hr hlt=>hf r hlt (h.w.lt r hr).1 (nW r hr)),h.s.mono hl (fun r hr hlt=>hf r hlt (h.s.lt r hr).1 (nS r hr)),⟨fun r hr=>⟨?_,(h.dj.1 r hr).2⟩,fun r hr=>⟨fun hn=>?_,fun hn=>?_⟩,h.dj.2.2⟩,?_⟩,⟨hl,fun r hr hne hn=>?_,fun r hr=>?_⟩⟩
 ·exact a2.mono (by rw[an];exact Nat.le_refl _) (fun r hr _=>af (by have:=(a2.lt r hr).1;omega) _)
 ·simp only[nmA,List.mem_singleton];have:=(h.e.lt r hr).2;omega
 ·simp only[nmA,List.mem_singleton] at hr;have:=(h.w.lt r hn).2;omega
 ·simp only[nmA,List.mem_singleton] at hr;have:=(h.s.lt r hn).2;omega
 ·simp only[List.length_append,hc];omega
 ·rw[af hne,a4 r hr (fun hm=>hn (dV.2 (.inr (.inl hm))))]
 ·rcases dV.1 hr with h1 | h1 | h1
  ·exact .inl (dV.2 (.inl h1))
  ·simp only[nmA,List.mem_singleton] at h1;exact .inr (by omega)
  ·exact .inl (dV.2 (.inr (.inr h1)))
theorem xG (a b c d e f g h i j:AV):ae [a,b,c,d,e,f,g,h,i,j] 6=some g:=rfl
theorem V3 (v i:Int){on:AV}(h:mc on):ar CC 169 [(0,.int .i64 v),(1,.int .i64 i),(3,on)]=some (.agg [.int .i64 v,.int .i64 i,.bool false,.int .i64 0,.int .i64 0,on]):=by
 rcases h with rfl | rfl <;> kernel_rfl
theorem WE (v i:Int){on:AV}(h:mc on)(L:Nat):wE CC 63 1 [(0,.agg [.int .i64 v,.int .i64 i,.bool false,.int .i64 0,.int .i64 0,on])] L=some (.cells [.int .i64 v,.int .i64 i,.bool false,.int .i64 0,.int .i64 0,on],fun r=>.rsl r 0 1 1 6):=by
 rcases h with rfl | rfl <;> kernel_rfl
theorem cc84:∃ e,CC.P.underlying 63=some (.slice e)∧e=169:=⟨_,by kernel_rfl,rfl⟩
theorem TA (r n:Nat):bn CC 63 (.rsl r 0 n n 6)=some (.int .i64 (n:Int)):=by
 obtain ⟨e,hu,_⟩:=cc84;rw[dH];simp[ew,hu]
section
variable {M:Memo}
abbrev mO (v:Nat)(i:Int)(on:AV):AObj:=.cells [.int .i64 (v:Int),.int .i64 i,.bool false,.int .i64 0,.int .i64 0,on]
theorem yQ (m:ia M){bo uo:Nat}{LV:AV}{H:Heap}{u:UN}(hU:UI uo H u)(hb:ae H bo=some (.cells [.ptr uo 0,LV]))(hbn:bo ∉ u.ns)(hv:u.vars + u.eqs.length + u.ms.length + u.ws.length + u.sp.length + u.size + 7 < 1000000)
  (init:Int) {on:AV} (hon:mc on) :
  ∃ (H' : Heap) (k id:Nat),orc CC M 89 [.ptr bo 0,.int .i64 init,on] H=some (.ret (.tuple [.int .i64 (k:Int),AtF.av ⟨false,0,u.vars⟩]) H' uo)∧u.ms.length=k * 6 ∧
    UI uo H' { u with vars:=u.vars + 1,ms:=u.ms ++ [.int .i64 (u.vars:Int),.int .i64 init,.bool false,.int .i64 0,.int .i64 0,on],Ms:=.rsl id 0 (k + 1) (k + 1) 6 } ∧
    Gr uo H u.ns H' ({ u with vars:=u.vars + 1,ms:=u.ms ++ [.int .i64 (u.vars:Int),.int .i64 init,.bool false,.int .i64 0,.int .i64 0,on],Ms:=.rsl id 0 (k + 1) (k + 1) 6 }:UN).ns:=by
 have hbu:=H8 hU hb;have hlb:bo < aa H:=by rw[ai];exact aT hb
 obtain ⟨H1,hP,U1,G1,hl1⟩:=pY m (H:=H ++ [.cells [.bool false,.int .i64 0,.int .i64 0]]) hU.ap (aw hb _) (by omega)
 have hl0:aa (H ++ [AObj.cells [.bool false,.int .i64 0,.int .i64 0]])=aa H + 1:=by rw[aI];rfl
 rw[hl0] at hl1;have hb1:ae H1 bo=some (.cells [.ptr uo 0,LV]):=by rw[G1.fr bo (by omega) hbu hbn];exact aw hb _
 have hz1:ae H1 (aa H)=some (.cells [.bool false,.int .i64 0,.int .i64 0]):=by
  rw[G1.fr (aa H) (by omega) (by have:=hU.uo;omega) (fun hm=>by have:=(hU.lt _ hm).2;omega),aD];rfl
 have hone:[AV.int .i64 (u.vars:Int),.int .i64 init,.bool false,.int .i64 0,.int .i64 0,on].all AV.one=true:=by rcases hon with rfl | rfl <;> rfl
 have hlow:∀ L,aR L [AV.int .i64 (u.vars:Int),.int .i64 init,.bool false,.int .i64 0,.int .i64 0,on]=true:=fun L=>by rcases hon with rfl | rfl <;> rfl
 have hlO:aa (H1 ++ [mO u.vars init on])=aa H + 2:=by rw[aI,hl1];rfl
 obtain ⟨n,H2,ha,hnn,hu2,hl2,hf2,hst,U3,G3⟩:=(U1.ap (K:=[mO u.vars init on])).addM 89 (b:=aa H1) (cs:=[.int .i64 (u.vars:Int),.int .i64 init,.bool false,.int .i64 0,.int .i64 0,on]) (by rw[aD];rfl) rfl hone (hlow _) (fun hm=>by have:=(U1.m.lt _ hm).2;omega) (by show u.vars + 1 + u.eqs.length + u.ms.length + u.ws.length + u.sp.length + u.size + 6 < 1000000;omega)
 rw[hlO] at hl2 hst U3 G3 ha;rw[hl1] at ha;obtain ⟨k,rfl⟩ : ∃ k,n=k + 1:=⟨n - 1,by simp at hnn;omega⟩
 have hk:u.ms.length=k * 6:=by
  simp only[List.length_append,List.length_cons,List.length_nil] at hnn;have h2:({ u with vars:=u.vars + 1 }:UN).ms.length=u.ms.length:=rfl
  omega
 have hbO:ae (H1 ++ [mO u.vars init on]) bo=some (.cells [.ptr uo 0,LV]):=aw hb1 _;have hb2:ae H2 bo=some (.cells [.ptr uo 0,LV]):=by rw[hf2 bo (by omega) (fun hm=>hbn (dV.2 (.inr (.inl hm)))),hbO]
 have hst':=hst (min (aa H) (aa H + 1)) (by have:=hU.uo;omega)
 have hmm:min (aa H) (aa H + 1)=aa H:=Nat.min_eq_left (by omega)
 rw[hmm] at hst';have hz3:=G3.fr (aa H) (by omega) (by have:=hU.uo;omega) (fun hm=>by have:=(hU.lt _ hm).2;omega)
 rw[aw hz1] at hz3;have hE:=U1.ob;have hbE:=U3.ob;have hb3:ae (aj H2 uo (.cells ({ ({ u with vars:=u.vars + 1 }:UN) with ms:=({ u with vars:=u.vars + 1 }:UN).ms ++ [.int .i64 (u.vars:Int),.int .i64 init,.bool false,.int .i64 0,.int .i64 0,on],Ms:=.rsl (aa H + 2) 0 (k + 1) (k + 1) 6 }:UN).c)) bo=some (.cells [.ptr uo 0,LV]):=by rw[af hbu,hb2]
 generalize hH3:aj H2 uo (.cells ({ ({ u with vars:=u.vars + 1 }:UN) with ms:=({ u with vars:=u.vars + 1 }:UN).ms ++ [.int .i64 (u.vars:Int),.int .i64 init,.bool false,.int .i64 0,.int .i64 0,on],Ms:=.rsl (aa H + 2) 0 (k + 1) (k + 1) 6 }:UN).c)=H3 at hst' U3 G3 hz3 hbE hb3
 have hl3:aa H3=aa H + 3:=by rw[← hH3,an,hl2]
 refine ⟨aj H3 (aa H) (.cells [.bool false,.int .i64 0,.int .i64 (u.vars:Int)]),k,aa H + 2,aL (z:=z89) (m _ _ rfl) (by kernel_rfl) rfl ?_,hk,U3.to (by rw[an];exact Nat.le_refl _) (fun q hq hn=>af ?_ _),?_⟩
 ·have e0:(envOf [.ptr bo 0,.int .i64 init,on] 0 env0).a.a.a=.ptr bo 0:=rfl;have e1:(envOf [.ptr bo 0,.int .i64 init,on] 0 env0).a.a.b=.int .i64 init:=rfl;have e2:(envOf [.ptr bo 0,.int .i64 init,on] 0 env0).a.a.c=on:=rfl;generalize envOf [.ptr bo 0,.int .i64 init,on] 0 env0=R at e0 e1 e2;have hsm:AV.same (.ptr uo 0) (.ptr uo 0)=true:=by simp[AV.same]
  have h146:=fun v=>V3 v init hon
  have h84:=fun v L=>WE v init hon L
  have hgc:=fun hp=>eW (keep:=CC.keep 89) (base:=aa H) (e:=uo) (v:=.tuple [.int .i64 (k:Int),AtF.av ⟨false,0,u.vars⟩]) (hp:=hp) (by have:=hU.uo;omega)
  have hzs:=fun c=>aO hz3 c
  have hs1:eO ((k + 1:Nat):Int) 1=(k:Int):=by
   show eO (.ofNat (k + 1)) (.ofNat 1)=_;have h1:Nat.ble 1 (k + 1)=true:=by rw[dk];simp
   have h2:Nat.ble (k + 1) natMax=true:=by rw[dk,decide_eq_true_eq];unfold natMax;omega
   simp only[eO,h1,h2,Bool.and_self,cond_true];rfl
  have hgone:aj (H1 ++ [AObj.gone]) (aa H + 1) (mO u.vars init on)=H1 ++ [mO u.vars init on]:=by rw[← hl1,dq];rfl
  have hb1':=fun K=>aw hb1 K
  have hE':=fun K=>aw hE K
  simp only[z89,PP,PV,OP,NU,SIM,ST0,ST1,dA,mb,hl1,e0,e1,e2,hP,hl0,hmm,hb1,hb1',hE,hE',hb2,hgone,xG,h146,h84,ha,hsm,hst',Ju,hz3,hzs,hb3,hbE,TA,hs1,hgc,Nat.reduceAdd,Nat.reduceLeDiff]
 ·rintro rfl
  rcases hn with h1 | h1
  ·have:=hU.uo;omega
  ·rcases G3.ns _ h1 with h2 | h2
   ·have:=(hU.lt _ h2).2;omega
   ·omega
 ·have G4:Gr uo H u.ns H3 _:=((Gr.ap.trans G1).trans Gr.ap).trans G3;refine ⟨by rw[an];exact G4.len,fun q hq hu hn=>?_,G4.ns⟩
  rw[af (by omega),G4.fr q hq hu hn]
end
theorem cc33:∃ e,CC.P.underlying 24=some (.slice e)∧e=46:=⟨_,by kernel_rfl,rfl⟩
theorem Dh (L:List NdR)(q:Lin):bn CC 24 (.sl 6 (L.map NdR.v) q)=some (.int .i64 (L.length:Int)):=by
 obtain ⟨e,hu,_⟩:=cc33;rw[cU hu,List.length_map]
theorem Cs {L:List NdR}{i:Nat}{a:NdR}(q:Lin)(h:L[i]?=some a):bb 6 (.sl 6 (L.map NdR.v) q) (.int .i64 (i:Int))=some (.iptr (fN a.s a.p a.ins a.outs a.vars (oc a.eqs))):=by
 refine cq (v:=a.v) ?_;rw[az,List.getElem?_map,h];rfl
abbrev zN:List AV:=[.str [],.int .i64 0,.nils,.nils,.nils,.nils]
theorem pR (d:NdR):fZ d.v=true:=by simp only[dT,bH,noNL_nil,gG,linN_dead,eq_noN,fc,fg,eX,cond_true]
theorem xQ (d:NdR):(fN d.s d.p d.ins d.outs d.vars (oc d.eqs)).all AV.one=true:=by
 simp only[List.all_cons,List.all_nil,ip,ev,eA,kj,Bool.and_self]
def lM (nm:List Nat):List NdR→Option NdR
 | []=>none
 | d :: l=>cond (strEq d.s nm) (some d) (lM nm l)
def XG (H:Heap)(o:Option NdR)(X:IRes):Prop:=match o with
 | none=>∃ r' G,X=some (.exit 0,r',[],⟨H ++ [.cells zN] ++ G,aa H⟩)∧r'.a.a.e=.ptr (aa H) 0
 | some d=>∃ r' G,X=some (.ret,r',[],⟨H ++ [eT d] ++ G,aa H⟩)∧r'.a.a.e=.ptr (aa H) 0∧r'.a.a.f=.bool true
section
variable {M:Memo}
theorem zm {H:Heap}{nm:List Nat}{L:List NdR}{q:Lin}(hL:L.length≤90000):∀ (d i:Nat),d + i=L.length→∀ (fu:Nat),d < fu→∀ (G:Heap) (r:RG),
  (r.a.a.b=.str nm∧r.a.a.e=.ptr (aa H) 0∧r.a.b.a=.sl 6 (L.map NdR.v) q∧r.a.b.b=.int .i64 (L.length:Int)∧r.a.b.c=.int .i64 (i:Int)) →
  XG H (lM nm (L.drop i)) (au (oP (orc CC M)) fu r [] ⟨H ++ [.cells zN] ++ G,aa H⟩):=by
 intro d
 induction d with
 | zero =>
   intro i hi fu hfu G r ⟨h1,h4,h8,h9,h10⟩;obtain ⟨fu',rfl⟩ : ∃ f,fu=f + 1:=⟨fu - 1,by omega⟩
   have:i=L.length:=by omega
   subst this;have hc:decide ((L.length:Int) < (L.length:Int))=false:=by simp
   rw[List.drop_length];simp only[au,oP,xh,SIM,ST0,h9,h10,hc];exact ⟨_,G,rfl,by first | rfl | exact h4⟩
 | succ d ih =>
   intro i hi fu hfu G r ⟨h1,h4,h8,h9,h10⟩;obtain ⟨fu',rfl⟩ : ∃ f,fu=f + 1:=⟨fu - 1,by omega⟩
   have hlt:i < L.length:=by omega
   have hc:decide ((i:Int) < (L.length:Int))=true:=by simp;omega
   have hd:L.drop i=L[i] :: L.drop (i + 1):=List.drop_eq_getElem_cons hlt;have hg:L[i]?=some L[i]:=by simp[hlt]
   generalize L[i]=a at hg hd;rw[hd];have hat:=Cs q hg;have ha:cA (i:Int) 1=((i + 1:Nat):Int):=bp i 1 (by unfold natMax;omega)
   have hn1:=pR a;have ho1:=xQ a
   have hset:∀ K c,aj (H ++ [.cells zN] ++ G ++ K) (aa H) c=H ++ [c] ++ (G ++ K):=fun K c=>by
    rw[List.append_assoc,List.append_assoc,dq];rw[List.append_assoc];rfl
   have hget:∀ K,ae (H ++ [.cells zN] ++ G ++ K) (aa H)=some (.cells zN):=fun K=>by
    rw[List.append_assoc,List.append_assoc,aD];rfl
   cases hs:strEq a.s nm with
   | true =>
     simp only[lM,hs,cond_true];generalize hHc:H ++ [.cells zN] ++ G=Hc at *;simp only[au,oP,xh,Ew,HZ,F0,SIM,ST0,ST1,h1,h4,h8,h9,h10,hc,hat,hs,hget,hset,hn1,ho1,DZS,Nat.reduceAdd,Nat.reduceLeDiff];exact ⟨_,_,rfl,by first | rfl | exact h4,rfl⟩
   | false =>
     simp only[lM,hs,cond_false];have key:=ih (i + 1) (by omega) fu' (by omega) (G ++ [eT a])
     rw[← List.append_assoc] at key;generalize hHc:H ++ [.cells zN] ++ G=Hc at *;simp only[au,oP,xh,Ew,HZ,F0,OJ,SIM,ST0,ST1,h1,h4,h8,h9,h10,hc,hat,hs,ha,hn1,ho1,DZS,Nat.reduceAdd,Nat.reduceLeDiff];exact key _ ⟨by first | rfl | exact h1,by first | rfl | exact h4,by first | rfl | exact h8,by first | rfl | exact h9,rfl⟩
theorem Ja (m:ia M){L:List NdR}{q:Lin}(hL:L.length≤90000){nm:List Nat}{d:NdR}(h:lM nm L=some d)(H:Heap):orc CC M 20 [.sl 6 (L.map NdR.v) q,.str nm] H=some (.ret (.tuple [d.v,.bool true]) H (aa H)):=by
 have lp:=zm (M:=M) (H:=H) (nm:=nm) (q:=q) hL L.length 0 rfl 100000 (by omega) []
 rw[List.append_nil,List.drop_zero,h] at lp;refine aL (z:=z20) (m _ _ rfl) (by kernel_rfl) rfl ?_
 have e0:(envOf [.sl 6 (L.map NdR.v) q,.str nm] 0 env0).a.a.a=.sl 6 (L.map NdR.v) q:=rfl;have e1:(envOf [.sl 6 (L.map NdR.v) q,.str nm] 0 env0).a.a.b=.str nm:=rfl;generalize envOf [.sl 6 (L.map NdR.v) q,.str nm] 0 env0=R at e0 e1
 obtain ⟨r0,hr0,hpre⟩ : ∃ r,(r.a.a.b=.str nm∧r.a.a.e=.ptr (aa H) 0∧r.a.b.a=.sl 6 (L.map NdR.v) q∧r.a.b.b=.int .i64 (L.length:Int)∧r.a.b.c=.int .i64 ((0:Nat):Int)) ∧
   z20.sh (orc CC M) R [] ⟨H,aa H⟩=dQ (ac (LF (orc CC M)) retZ) (du 0 (au (oP (orc CC M)) 100000 r [] ⟨H ++ [.cells zN],aa H⟩)):=by
  have hln:=Dh L q;simp only[z20,N8,O8,SIM,ST0,e0,e1,hln,Nat.reduceAdd,Nat.reduceLeDiff];exact ⟨_,⟨by first | rfl | exact e1,rfl,rfl,rfl,rfl⟩,rfl⟩
 obtain ⟨r',G,h1,h4,h5⟩:=lp r0 hr0;rw[hpre,h1];have hg:ae (H ++ [eT d] ++ G) (aa H)=some (eT d):=by rw[List.append_assoc,aD];rfl
 have ht:bG (aa H) (H ++ [eT d] ++ G)=H:=by rw[List.append_assoc,cn]
 have hnn:fZ (.tuple [d.v,.bool true])=true:=by
  show dt [d.v,.bool true]=true;simp only[bH,noNL_nil,pR,f8,cond_true]
 have hgc:=iw (k:=CC.keep 20) (b:=aa H) (v:=.tuple [d.v,.bool true]) (hp:=H ++ [eT d] ++ G) hnn;rw[ht] at hgc;generalize H ++ [eT d] ++ G=Hc at *;simp only[z20,SIM,ST0,h4,h5,hg,hgc,Nat.reduceAdd,Nat.reduceLeDiff]
abbrev uO (u:UN)(s:Nat):AObj:=.cells (Tm u.nd u.at_ u.vars u.I u.O u.E u.Ms u.W u.S s)
theorem LC (a b c d e f g h i j:AV):ae [a,b,c,d,e,f,g,h,i,j] 9=some j:=rfl
theorem Vr (a b c d e f g h i j v:AV):cu [a,b,c,d,e,f,g,h,i,j] 9 [v]=[a,b,c,d,e,f,g,h,i,v]:=rfl
theorem UV (a b c d e f g h i j v:AV):aj [a,b,c,d,e,f,g,h,i,j] 9 v=[a,b,c,d,e,f,g,h,i,v]:=rfl
theorem lR (e:Ex)(L:Nat):ep e.v L=some (dK e,(.ptr · 0)):=by
 have h1:e.v.low L=true:=(dh _ (ex_noN e)).2 L;unfold ep
 have h2:(AV.cells e.v).all AV.one=true:=by
  rw[fI];simp only[List.all_cons,List.all_nil,kY,ev,eA,fH,Bool.and_self]
 rw[if_pos ⟨h2,h1⟩,fI]
theorem Ea (m:ia M){xo bo uo:Nat}{LV:AV}{u:UN}{s:Nat}(hs:s < 1000000){H:Heap}(hx:ae H xo=some (.cells [.ptr bo 0]))(hb:ae H bo=some (.cells [.ptr uo 0,LV]))(hu:ae H uo=some (uO u s))(e:Ex) :
  orc CC M 48 [e.v,.ptr xo 0] H=some (.ret Abs.undef (aj H uo (uO u (s + 1))) (aa H)):=by
 have hbx:=lR e;refine aL (z:=z48) (m _ _ rfl) (by kernel_rfl) rfl ?_
 have e0:(envOf [e.v,.ptr xo 0] 0 env0).a.a.a=e.v:=rfl;have e1:(envOf [e.v,.ptr xo 0] 0 env0).a.a.b=.ptr xo 0:=rfl;generalize envOf [e.v,.ptr xo 0] 0 env0=R at e0 e1;have ha:cA (s:Int) 1=((s + 1:Nat):Int):=bp s 1 (by unfold natMax;omega)
 have hset:∀ c K,aj (H ++ K) uo c=aj H uo c ++ K:=fun c K=>bP hu K c
 have ht:∀ c K,bG (aa H) (aj H uo c ++ K)=aj H uo c:=fun c K=>by
  have:=cn (aj H uo c) K
  rwa [an] at this
 have hgc:=fun (K:Heap) c=>iw (k:=CC.keep 48) (b:=aa H) (v:=Abs.undef) (hp:=aj H uo c ++ K) rfl
 simp only[ht] at hgc;simp only[z48,MM,PQ,SIM,ST0,e0,e1,hbx,aw hx,aw hb,aw hu,LC,Vr,UV,ha,hset,hgc,Nat.reduceAdd,Nat.reduceLeDiff]
def Xs (H:Heap)(e:Ex)(uo:Nat)(o:AObj)(X:IRes):Prop:=∃ r' G,X=some (.exit 0,r',[],⟨aj H uo o ++ [dK e] ++ G,aa H⟩)
theorem y6 (m:ia M){H:Heap}{e:Ex}{xo bo uo:Nat}{LV:AV}{u:UN}(hxl:xo < aa H)(hbl:bo < aa H)(hul:uo < aa H)(hxu:xo ≠ uo)(hbu:bo ≠ uo)(hx:ae H xo=some (.cells [.ptr bo 0]))(hb:ae H bo=some (.cells [.ptr uo 0,LV]))
  (hsz:sizeL e.kids < 90000) (ihk:∀ a ∈ e.kids,∀ (s:Nat) (H:Heap),s + sizeE a < 1000000→ae H xo=some (.cells [.ptr bo 0])→ae H bo=some (.cells [.ptr uo 0,LV])→ae H uo=some (uO u s)→orc CC M 47 [a.v,.func (.func 48) [] [.ptr xo 0]] H=some (.ret Abs.undef (aj H uo (uO u (s + sizeE a))) (aa H))) {V:AV} (hV:∀ (i:Nat) (a:Ex),e.kids[i]?=some a→bb 6 V (.int .i64 (i:Int))=some (.iptr a.v.cells)) :
  ∀ (d i:Nat),d + i=e.kids.length→∀ (fu:Nat),d < fu→∀ (G:Heap) (s:Nat),s + sizeL (e.kids.drop i) < 1000000→∀ (r:RG),
  (r.a.a.b=.func (.func 48) [] [.ptr xo 0]∧r.a.b.c=V∧r.a.b.d=.int .i64 (e.kids.length:Int)∧r.a.b.e=.int .i64 (i:Int)) →
  Xs H e uo (uO u (s + sizeL (e.kids.drop i))) (au (sG (orc CC M)) fu r [] ⟨aj H uo (uO u s) ++ [dK e] ++ G,aa H⟩):=by
 have hlen:=sizeL_len e.kids;intro d
 induction d with
 | zero =>
   intro i hi fu hfu G s hs r ⟨h1,h10,h11,h12⟩;obtain ⟨fu',rfl⟩ : ∃ f,fu=f + 1:=⟨fu - 1,by omega⟩
   have:i=e.kids.length:=by omega
   subst this;have hc:decide ((e.kids.length:Int) < (e.kids.length:Int))=false:=by simp
   rw[List.drop_length];simp only[au,sG,GC,SIM,ST0,h11,h12,hc,sizeL];exact ⟨_,G,rfl⟩
 | succ d ih =>
   intro i hi fu hfu G s hs r ⟨h1,h10,h11,h12⟩;obtain ⟨fu',rfl⟩ : ∃ f,fu=f + 1:=⟨fu - 1,by omega⟩
   have hlt:i < e.kids.length:=by omega
   have hc:decide ((i:Int) < (e.kids.length:Int))=true:=by simp;omega
   have hd:e.kids.drop i=e.kids[i] :: e.kids.drop (i + 1):=List.drop_eq_getElem_cons hlt;have hg:e.kids[i]?=some e.kids[i]:=by simp[hlt]
   have hm:=ihk _ (List.getElem_mem hlt);generalize e.kids[i]=a at hd hg hm;have hat:=hV i a hg;have ha:cA (i:Int) 1=((i + 1:Nat):Int):=bp i 1 (by unfold natMax;omega)
   rw[hd] at hs ⊢;simp only[sizeL] at hs ⊢;have hl1:∀ o:AObj,aa (aj H uo o)=aa H:=fun o=>an _ _ _
   have hll:∀ (o:AObj) (G:Heap),aa (aj H uo o ++ [dK e] ++ G)=aa H + 1 + aa G:=fun o G=>by rw[aI,aI,hl1];rfl
   have E:=hm s (aj H uo (uO u s) ++ [dK e] ++ G ++ [dK a]) (by omega) (by rw[List.append_assoc,List.append_assoc];exact aw (by rw[af hxu,hx]) _) (by rw[List.append_assoc,List.append_assoc];exact aw (by rw[af hbu,hb]) _) (by rw[List.append_assoc,List.append_assoc];exact aK hul _ _)
   have hst:∀ o,aj (aj H uo (uO u s) ++ [dK e] ++ G ++ [dK a]) uo o=aj H uo o ++ [dK e] ++ (G ++ [dK a]):=fun o=>by
    rw[List.append_assoc,List.append_assoc,aJ hul,List.append_assoc]
   rw[hst] at E;have key:=ih (i + 1) (by omega) fu' (by omega) (G ++ [dK a]) (s + sizeE a) (by omega)
   rw[Nat.add_assoc] at key;have hlc:=hll (uO u s) G;have hlq:aa (aj H uo (uO u s) ++ [dK e] ++ G ++ [dK a])=aa (aj H uo (uO u s) ++ [dK e] ++ G) + 1:=by rw[aI];rfl
   rw[hlq] at E;have hmin:∀ q,min (aa H) (aa (aj H uo (uO u s) ++ [dK e] ++ G) + q)=aa H:=fun q=>Nat.min_eq_left (by rw[hlc];omega)
   generalize aj H uo (uO u s) ++ [dK e] ++ G=Hc at *;simp only[au,sG,GC,Oi,MG,OZ,SIM,ST0,ST1,h1,h10,h11,h12,hc,hat,E,ha,hmin,EXS,Nat.reduceAdd,Nat.reduceLeDiff];exact key _ ⟨by first | rfl | exact h1,by first | rfl | exact h10,by first | rfl | exact h11,rfl⟩
theorem KJ (m:ia M){xo bo uo:Nat}{LV:AV}{u:UN}:∀ (z:Nat) (e:Ex),sizeE e≤z→z < 90000→∀ (s:Nat) (H:Heap),s + sizeE e < 1000000→ae H xo=some (.cells [.ptr bo 0])→ae H bo=some (.cells [.ptr uo 0,LV])→ae H uo=some (uO u s) →
  orc CC M 47 [e.v,.func (.func 48) [] [.ptr xo 0]] H=some (.ret Abs.undef (aj H uo (uO u (s + sizeE e))) (aa H)):=by
 intro z
 induction z with
 | zero=>intro e he;have:=jd e;omega
 | succ z ih =>
   intro e he hz s H hs hx hb hu;have hk:=jd e;have hxl:xo < aa H:=by rw[ai];exact aT hx
   have hbl:bo < aa H:=by rw[ai];exact aT hb
   have hul:uo < aa H:=by rw[ai];exact aT hu
   have hxu:xo ≠ uo:=by rintro rfl;rw[hx] at hu;simp at hu
   have hbu:bo ≠ uo:=by rintro rfl;rw[hb] at hu;simp at hu
   have hbx:=lR e;obtain ⟨e',hu',rfl⟩:=cc121
   have hlen:bn CC 81 e.kv=some (.int .i64 (e.kids.length:Int)):=by
    unfold Ex.kv;rw[exL_map];cases hkk:e.kids with
    | nil=>rw[List.map_nil,dH];simp[cC,ew,hu']
    | cons a l=>rw[List.map_cons];simp only[cC];rw[cU hu'];simp
   have hV:∀ (i:Nat) (a:Ex),e.kids[i]?=some a→bb 6 e.kv (.int .i64 (i:Int))=some (.iptr a.v.cells):=by
    intro i a h;unfold Ex.kv;rw[exL_map];cases hkk:e.kids with
    | nil=>rw[hkk] at h;simp at h
    | cons a' l =>
      rw[List.map_cons];simp only[cC];refine cq ?_;rw[← List.map_cons (f:=Ex.v),az,List.getElem?_map,← hkk,h];rfl
   have N:=Ea m (s:=s) (by omega) (H:=H ++ [dK e]) (aw hx _) (aw hb _) (aw hu _) e
   rw[bP hu,aI] at N;have lp:=y6 m (e:=e) (u:=u) hxl hbl hul hxu hbu hx hb (by omega) (fun a ha s H hs hx hb hu=>ih a (by have:=iO ha;omega) (by omega) s H hs hx hb hu) hV e.kids.length 0 rfl 100000 (by have:=sizeL_len e.kids;omega) [] (s + 1) (by rw[List.drop_zero];omega)
   rw[List.append_nil,List.drop_zero,show s + 1 + sizeL e.kids=s + sizeE e by omega] at lp
   refine aL (z:=z47) (m _ _ rfl) (by kernel_rfl) rfl ?_
   have e0:(envOf [e.v,.func (.func 48) [] [.ptr xo 0]] 0 env0).a.a.a=e.v:=rfl;have e1:(envOf [e.v,.func (.func 48) [] [.ptr xo 0]] 0 env0).a.a.b=.func (.func 48) [] [.ptr xo 0]:=rfl;generalize envOf [e.v,.func (.func 48) [] [.ptr xo 0]] 0 env0=R at e0 e1;have call115:∀ (a b:AV) (s:St),dC CC 48 [a,b] s=some (.call 48 [a,b]):=fun a b s=>by kernel_rfl
   have hmin:min (aa H) (aa H + aa [dK e])=aa H:=Nat.min_eq_left (by omega)
   have hge:ae (aj H uo (uO u (s + 1)) ++ [dK e]) (aa H)=some (dK e):=by
    have:=aD (aj H uo (uO u (s + 1))) [dK e];rw[an] at this;rw[this];rfl
   obtain ⟨r0,hr0,hpre⟩ : ∃ r,(r.a.a.b=.func (.func 48) [] [.ptr xo 0]∧r.a.b.c=e.kv∧r.a.b.d=.int .i64 (e.kids.length:Int)∧r.a.b.e=.int .i64 ((0:Nat):Int))∧z47.sh (orc CC M) R [] ⟨H,aa H⟩=du 0 (au (sG (orc CC M)) 100000 r [] ⟨aj H uo (uO u (s + 1)) ++ [dK e],aa H⟩):=by
    simp only[z47,M8,OD,Oc,SIM,ST0,e0,e1,hbx,call115,N,hmin,hge,hlen,EXS,Nat.reduceAdd,Nat.reduceLeDiff];exact ⟨_,⟨by first | rfl | exact e1,rfl,rfl,rfl⟩,rfl⟩
   rw[hpre];obtain ⟨r',G,h1⟩:=lp r0 hr0;rw[h1]
   have ht:bG (aa H) (aj H uo (uO u (s + sizeE e)) ++ [dK e] ++ G)=aj H uo (uO u (s + sizeE e)):=by
    rw[List.append_assoc];have:=cn (aj H uo (uO u (s + sizeE e))) ([dK e] ++ G)
    rwa [an] at this
   have hgc:=iw (k:=CC.keep 47) (b:=aa H) (v:=Abs.undef) (hp:=aj H uo (uO u (s + sizeE e)) ++ [dK e] ++ G) rfl;rw[ht] at hgc;generalize aj H uo (uO u (s + sizeE e)) ++ [dK e] ++ G=Hc at *;simp only[z47,SIM,ST0,hgc,Nat.reduceAdd,Nat.reduceLeDiff]
end
abbrev kE (es:List (List Nat × AV)):List (AV × AV):=es.map fun x=>(.str x.1,x.2)
def gb (nm:List Nat):List (List Nat × AV)→Option AV
 | []=>none
 | (s,v) :: r=>cond (strEq s nm) (some v) (gb nm r)
theorem f7 (a b:List Nat):strEq a b=decide (a=b):=by
 induction a generalizing b with
 | nil=>cases b <;> simp[strEq]
 | cons x a ih=>cases b with
   | nil=>simp[strEq]
   | cons y b =>
     simp only[strEq,ih]
     by_cases h:x=y <;> simp[h,Nat.beq_eq]
theorem xr {nm:List Nat}{v:AV}:∀ {es:List (List Nat × AV)} (i:Nat),gb nm es=some v→∃ j,cJ (.str nm) (kE es) i=some (j,v)
 | [],i,h=>by cases h
 | (s,w) :: r,i,h=>by
   simp only[gb] at h;simp only[kE,List.map_cons,cJ]
   by_cases hs:s=nm
   ·subst hs;rw[f7] at h;simp only[decide_true,cond_true,SJ] at h;subst h;exact ⟨i,by simp[keyEq]⟩
   ·rw[f7] at h;simp only[hs,decide_false,cond_false] at h;obtain ⟨j,hj⟩:=xr (i + 1) h;have hk:keyEq (.str nm) (.str s)=false:=by simp[keyEq,Ne.symm hs]
    exact ⟨j,by rw[if_neg (by rw[hk];simp)];exact hj⟩
theorem qr {nm:List Nat}:∀ {es:List (List Nat × AV)} (i:Nat),gb nm es=none→cJ (.str nm) (kE es) i=none
 | [],i,h=>rfl
 | (s,w) :: r,i,h=>by
   simp only[gb] at h;simp only[kE,List.map_cons,cJ]
   by_cases hs:s=nm
   ·subst hs;rw[f7] at h;simp at h
   ·rw[f7] at h;simp only[hs,decide_false,cond_false] at h;have hk:keyEq (.str nm) (.str s)=false:=by simp[keyEq,Ne.symm hs]
    rw[if_neg (by rw[hk];simp)]
    exact qr (i + 1) h
theorem JN (nm:List Nat):∀ es:List (List Nat × AV),eY (.str nm) (kE es)=true
 | []=>rfl
 | x :: r=>by simp only[kE,List.map_cons,eY,Bool.true_and];exact JN nm r
theorem MQ (nm:List Nat):∃ e,gP CC 118 (.str nm)=some e∧e=3:=⟨_,by kernel_rfl,rfl⟩
theorem TY (nm:List Nat):∃ e,gP CC 119 (.str nm)=some e∧e=95:=⟨_,by kernel_rfl,rfl⟩
theorem md {nm:List Nat}{v:AV}{es:List (List Nat × AV)}{vo:Nat}{H:Heap}(h:gb nm es=some v)(hg:ae H vo=some (.map (kE es))):cN CC 118 (.map vo) (.str nm) false H=some v:=by
 obtain ⟨e,he,_⟩:=MQ nm;obtain ⟨j,hj⟩:=xr 0 h;rw[az] at hg;simp only[cN,he,kL,hg,JN,if_true,hj,Bool.false_eq_true,if_false]
structure Cx (uo bo so vo fo:Nat)(LV:AV)(d:NdR)(vm fm:List (List Nat × AV))(base:AV)(H:Heap)(u:UN):Prop where
 U:UI uo H u
 b:ae H bo=some (.cells [.ptr uo 0,LV])
 s:ae H so=some (.cells (zq d (.map vo) (.map fo) base))
 v:ae H vo=some (.map (kE vm))
 f:ae H fo=some (.map (kE fm))
 nb:bo ∉ u.ns
 ns:so ∉ u.ns
 nv:vo ∉ u.ns
 nf:fo ∉ u.ns
section
variable {uo bo so vo fo:Nat}{LV:AV}{d:NdR}{vm fm:List (List Nat × AV)}{base:AV}{H H' : Heap}{u u' : UN}
theorem Cx.bu (C:Cx uo bo so vo fo LV d vm fm base H u):bo ≠ uo:=H8 C.U C.b
theorem Cx.su (C:Cx uo bo so vo fo LV d vm fm base H u):so ≠ uo:=by
 intro h;have h1:=C.s;rw[h,C.U.ob] at h1;simp at h1
theorem Cx.vu (C:Cx uo bo so vo fo LV d vm fm base H u):vo ≠ uo:=by
 intro h;have h1:=C.v;rw[h,C.U.ob] at h1;simp at h1
theorem Cx.fu (C:Cx uo bo so vo fo LV d vm fm base H u):fo ≠ uo:=by
 intro h;have h1:=C.f;rw[h,C.U.ob] at h1;simp at h1
theorem dG {H:Heap}{q:Nat}{o:AObj}(h:ae H q=some o):q < aa H:=by rw[ai];exact aT h
theorem Cx.step (C:Cx uo bo so vo fo LV d vm fm base H u)(U' : UI uo H' u')(G:Gr uo H u.ns H' u'.ns):Cx uo bo so vo fo LV d vm fm base H' u':=by
 have key:∀ q,q < aa H→q ∉ u.ns→q ∉ u'.ns:=fun q hq hn hm=>(G.ns q hm).elim hn (fun h=>by omega)
 exact ⟨U',by rw[G.fr bo (dG C.b) C.bu C.nb];exact C.b,by rw[G.fr so (dG C.s) C.su C.ns];exact C.s,by rw[G.fr vo (dG C.v) C.vu C.nv];exact C.v,by rw[G.fr fo (dG C.f) C.fu C.nf];exact C.f,
  key bo (dG C.b) C.nb,key so (dG C.s) C.ns,key vo (dG C.v) C.nv,key fo (dG C.f) C.nf⟩
theorem Cx.ap (C:Cx uo bo so vo fo LV d vm fm base H u)(K:Heap):Cx uo bo so vo fo LV d vm fm base (H ++ K) u:=C.step C.U.ap Gr.ap
end
structure QF where
 op:List Nat
 dst:Nat
 args:List AtF
structure WQ where
 dst:Nat
 sp:Int
 pa:Int
 ah:List Int
 at_:Int
structure SQ where
 nd:List Nat
 args:List AtF
 futs:List (Int × Int)
 at_:Int
structure PS where
 vars:Nat
 eqs:List QF
 nm:Nat
 ws:List WQ
 sp:List SQ
 size:Nat
def EqF.q (e:EqF):QF:=⟨e.op,e.dst,e.args⟩
def WtF.q (w:WtF):WQ:=⟨w.dst,w.sp,w.pa,w.ah,w.at_⟩
def SpF.q (s:SpF):SQ:=⟨s.nd,s.args,s.futs,s.at_⟩
def UN.p (u:UN):PS:=⟨u.vars,u.eqs.map EqF.q,u.ms.length,u.ws.map WtF.q,u.sp.map SpF.q,u.size⟩
structure Same (u u' : UN):Prop where
 nd:u'.nd=u.nd
 at_:u'.at_=u.at_
 I:u'.I=u.I
 O:u'.O=u.O
theorem Same.refl {u:UN}:Same u u:=⟨rfl,rfl,rfl,rfl⟩
theorem Same.trans {a b c:UN}(h:Same a b)(h' : Same b c):Same a c:=⟨h'.nd.trans h.nd,h'.at_.trans h.at_,h'.I.trans h.I,h'.O.trans h.O⟩
def DE (uo:Nat)(H H' : Heap)(u u' : UN)(e:Nat):Prop:=(e=aa H∧H'=H∧u'=u)∨e=uo
def PS.w (p:PS):Nat:=p.vars + p.eqs.length + p.nm + p.ws.length + p.sp.length + p.size
theorem UN.pw (u:UN):u.p.w=u.vars + u.eqs.length + u.ms.length + u.ws.length + u.sp.length + u.size:=by
 simp[UN.p,PS.w]
def dy (f:Ex→PS→Option (AtF × PS)):List Ex→PS→Option (List AtF × PS)
 | [],p=>some ([],p)
 | a :: l,p=>match f a p with
   | none=>none
   | some (x,p1)=>match dy f l p1 with
     | none=>none
     | some (xs,p2)=>some (x :: xs,p2)
theorem ii {f:Ex→PS→Option (AtF × PS)}(hf:∀ e p a p',f e p=some (a,p')→p.w≤p'.w):∀ (l:List Ex) (p:PS) (xs:List AtF) (p' : PS),dy f l p=some (xs,p')→p.w≤p'.w
 | [],p,xs,p',h=>by simp only[dy,SJ,PJ] at h;rw[h.2];exact Nat.le_refl _
 | a :: l,p,xs,p',h=>by
   simp only[dy] at h
   split at h
   ·cases h
   ·rename_i x p1 h1
    split at h
    ·cases h
    ·rename_i ys p2 h2;simp only[SJ,PJ] at h;rw[← h.2];exact Nat.le_trans (hf _ _ _ _ h1) (ii hf l _ _ _ h2)
section
variable (M:Memo)(uo bo so vo fo:Nat)(LV:AV)(d:NdR)(vm fm:List (List Nat × AV))(base:AV)
def lx (f:Ex→PS→Option (AtF × PS))(e:Ex):Prop:=∀ (H:Heap) (u:UN) (a:AtF) (p' : PS),f e u.p=some (a,p')→Cx uo bo so vo fo LV d vm fm base H u→p'.w + 20 < 1000000 →
 ∃ H' u' esc,orc CC M 74 [.ptr bo 0,.ptr so 0,e.v,.nils] H=some (.ret a.av H' esc)∧UI uo H' u'∧Gr uo H u.ns H' u'.ns∧u'.p=p'∧Same u u'∧DE uo H H' u u' esc
end
def Xz (l:List AtF)(V:AV)(L:Nat):Prop:=(l=[]∧V=.nils)∨(l ≠ []∧∃ lin,V=.sl 3 (l.map AtF.av) lin∧lin.low L=true)
def WC (b:Nat)(ns:List Nat)(Hc:Heap)(V:AV)(acc:List AtF):Prop:=(acc=[]∧V=.nils)∨(acc ≠ []∧∃ id g,V=.sl 3 (acc.map AtF.av) (.live id g)∧ae Hc id=some (.lin g)∧b≤id∧id ∉ ns)
theorem uf (a:AtF):aP CC 88 1 [(0,a.av)]=some (.sl 3 [a.av] .lit):=by
 have:∀ (c:Bool) (n v:Int),aP CC 88 1 [(0,.agg [.bool c,.int .i64 n,.int .i64 v])]=some (.sl 3 [.agg [.bool c,.int .i64 n,.int .i64 v]] .lit):=fun c n v=>by kernel_rfl
 exact this _ _ _
section
variable {M:Memo}{uo bo so vo fo:Nat}{LV:AV}{d:NdR}{vm fm:List (List Nat × AV)}{base:AV}
theorem Cx.put {H Hc:Heap}{u uc:UN}{id:Nat}{o:AObj}(C0:Cx uo bo so vo fo LV d vm fm base H u)(C:Cx uo bo so vo fo LV d vm fm base Hc uc)(hid:aa H≤id)(hn:id ∉ uc.ns):Cx uo bo so vo fo LV d vm fm base (aj Hc id o) uc:=by
 have h1:=dG C0.b;have h2:=dG C0.s;have h3:=dG C0.v;have h4:=dG C0.f;have h5:=C0.U.uo;refine ⟨C.U.to (by rw[an];exact Nat.le_refl _) (fun q hq hm=>af ?_ _),by rw[af (by omega)];exact C.b,by rw[af (by omega)];exact C.s,by rw[af (by omega)];exact C.v,by rw[af (by omega)];exact C.f,C.nb,C.ns,C.nv,C.nf⟩
 rintro rfl
 rcases hm with rfl | hm
 ·omega
 ·exact hn hm
theorem Gr.put2 {H Hc:Heap}{ns ns' : List Nat}{id:Nat}{o:AObj}(G:Gr uo H ns Hc ns')(hid:aa H≤id):Gr uo H ns (aj Hc id o) ns' :=
 ⟨by rw[an];exact G.len,fun q hq hu hn=>by rw[af (by omega),G.fr q hq hu hn],G.ns⟩
def Xq (uo bo so vo fo:Nat)(LV:AV)(d:NdR)(vm fm:List (List Nat × AV))(base:AV)(H:Heap)(u:UN)(l:List AtF)(p' : PS)(X:IRes):Prop :=
 ∃ r' Hc uc e,X=some (.exit 0,r',[],⟨Hc,e⟩)∧Cx uo bo so vo fo LV d vm fm base Hc uc∧Gr uo H u.ns Hc uc.ns∧uc.p=p'∧Same u uc∧((e=aa H∧uc=u∧∃ G,Hc=H ++ G)∨e=uo)∧WC (aa H) uc.ns Hc r'.a.b.b l
theorem ue (m:ia M){f:Ex→PS→Option (AtF × PS)}(hf:∀ e p a p',f e p=some (a,p')→p.w≤p'.w){kids:List Ex}(hk:kids.length≤90000)(ihk:∀ e ∈ kids,lx M uo bo so vo fo LV d vm fm base f e){V:AV}(hV:∀ (i:Nat) (a:Ex),kids[i]?=some a→bb 6 V (.int .i64 (i:Int))=some (.iptr a.v.cells))
  {H:Heap} {u:UN} (C0:Cx uo bo so vo fo LV d vm fm base H u) {p' : PS} (hw:p'.w + 20 < 1000000) :
  ∀ (n i:Nat),n + i=kids.length→∀ (fu:Nat),n < fu→∀ (Hc:Heap) (uc:UN) (e:Nat) (acc l:List AtF),acc.length≤i→dy f (kids.drop i) uc.p=some (l,p')→Cx uo bo so vo fo LV d vm fm base Hc uc→Gr uo H u.ns Hc uc.ns→Same u uc→((e=aa H∧uc=u∧∃ G,Hc=H ++ G)∨e=uo)→∀ (r:RG),WC (aa H) uc.ns Hc r.a.b.b acc →
  (r.a.a.a=.ptr bo 0∧r.a.a.b=.ptr so 0∧r.a.a.c=.nils∧r.a.b.e=V∧r.a.b.f=.int .i64 (kids.length:Int)∧r.a.b.g=.int .i64 (i:Int)) →
  Xq uo bo so vo fo LV d vm fm base H u (acc ++ l) p' (au (pG (orc CC M)) fu r [] ⟨Hc,e⟩):=by
 intro n
 induction n with
 | zero =>
   intro i hi fu hfu Hc uc e acc l hal hat C G S hE r hA ⟨h0,h1,h2,h12,h13,h14⟩;obtain ⟨fu',rfl⟩ : ∃ f,fu=f + 1:=⟨fu - 1,by omega⟩
   have:i=kids.length:=by omega
   subst this;have hc:decide ((kids.length:Int) < (kids.length:Int))=false:=by simp
   rw[List.drop_length] at hat;simp only[dy,SJ,PJ] at hat;obtain ⟨rfl,rfl⟩:=hat;simp only[au,pG,yg,SIM,ST0,h13,h14,hc];exact ⟨_,Hc,uc,e,rfl,C,G,rfl,S,hE,by first | exact hA⟩
 | succ n ih =>
   intro i hi fu hfu Hc uc e acc l hal hat C G S hE r hA ⟨h0,h1,h2,h12,h13,h14⟩;obtain ⟨fu',rfl⟩ : ∃ f,fu=f + 1:=⟨fu - 1,by omega⟩
   have hlt:i < kids.length:=by omega
   have hc:decide ((i:Int) < (kids.length:Int))=true:=by simp;omega
   have hd:kids.drop i=kids[i] :: kids.drop (i + 1):=List.drop_eq_getElem_cons hlt;have hg:kids[i]?=some kids[i]:=by simp[hlt]
   have hm:=ihk _ (List.getElem_mem hlt);generalize kids[i]=a at hd hg hm;have hias:=hV i a hg;have ha:cA (i:Int) 1=((i + 1:Nat):Int):=bp i 1 (by unfold natMax;omega)
   rw[hd] at hat;simp only[dy] at hat
   split at hat
   ·cases hat
   ·rename_i x p1 hx
    split at hat
    ·cases hat
    ·rename_i xs p2 hxs;simp only[SJ,PJ] at hat;obtain ⟨rfl,rfl⟩:=hat;have hw1:=ii hf _ _ _ _ hxs;obtain ⟨H1,u1,e1,hP,U1,G1,hp1,S1,hD⟩:=hm (Hc ++ [dK a]) uc x p1 hx (C.ap _) (by omega)
     have C1:=(C.ap [dK a]).step U1 G1;have G2:Gr uo H u.ns H1 u1.ns:=(G.trans Gr.ap).trans G1;have S2:=S.trans S1;have huo:=C0.U.uo;have hle:=G.len
     have hEn:((min e e1=aa H∧u1=u∧∃ G',H1=H ++ G')∨min e e1=uo)∧uo≤min e e1:=by
      rcases hD with ⟨he1,hH1,hu1⟩ | he1
      ·have h3:aa (Hc ++ [dK a])=aa Hc + 1:=by rw[aI];rfl
       rcases hE with ⟨he,huc,K,hK⟩ | he
       ·have h4:min e e1=aa H:=by rw[he,he1,h3];omega
        exact ⟨.inl ⟨h4,by rw[hu1,huc],K ++ [dK a],by rw[hH1,hK,List.append_assoc]⟩,by omega⟩
       ·have h4:min e e1=uo:=by rw[he,he1,h3];omega
        exact ⟨.inr h4,by omega⟩
      ·have h4:min e e1=uo:=by rcases hE with ⟨he,_,_⟩ | he <;> omega
       exact ⟨.inr h4,by omega⟩
     have hxs' : dy f (kids.drop (i + 1)) u1.p=some (xs,p2):=by rw[hp1];exact hxs
     rcases hA with ⟨rfl,hn⟩ | ⟨hne,id,g,hn,hgi,hid,hni⟩
     ·have happ:=fun e lin=>rO (ys:=[x.av]) (hp:=H1) (e:=e) sl139 64 lin (by simp) rfl (by simp)
      have key:=ih (i + 1) (by omega) fu' (by omega) (H1 ++ [.lin 0]) u1 (min e e1) [x] xs (by simp) hxs' (C1.ap _) (G2.trans Gr.ap) S2
       (hEn.1.imp (fun ⟨a1,a2,K,a3⟩=>⟨a1,a2,K ++ [.lin 0],by rw[a3,List.append_assoc]⟩) id)
      have hnew:WC (aa H) u1.ns (H1 ++ [.lin 0]) (.sl 3 [x.av] (.live (aa H1) 0)) [x]:=.inr ⟨by simp,_,_,rfl,by rw[aD];rfl,G2.len,fun hm=>by have:=(U1.lt _ hm).2;omega⟩
      simp only[au,pG,yg,Bc,Bv,F5,SIM,ST0,ST1,h0,h1,h2,h12,h13,h14,hc,hias,hn,hP,uf,happ,ha,EXS,Nat.reduceAdd,Nat.reduceLeDiff];exact key _ hnew ⟨by first | rfl | exact h0,by first | rfl | exact h1,by first | rfl | exact h2,by first | rfl | exact h12,by first | rfl | exact h13,rfl⟩
     ·have hidl:=dG hgi;have hgi1:ae H1 id=some (.lin g):=by rw[G1.fr id (by rw[aI];omega) (by omega) hni];exact aw hgi _
      have hni1:id ∉ u1.ns:=fun hm=>(G1.ns id hm).elim hni (fun h=>by rw[aI] at h;omega)
      have happ:=fun e lin=>iW (xs:=acc.map AtF.av) (ys:=[x.av]) (hp:=H1) (e:=e) sl139 64 lin (by simp) rfl (by rw[List.length_map];simp;omega) hgi1
      have hmap:acc.map AtF.av ++ [x.av]=(acc ++ [x]).map AtF.av:=by simp
      rw[hmap] at happ
      have key:=ih (i + 1) (by omega) fu' (by omega) (aj H1 id (.lin (g + 1))) u1 (min e e1) (acc ++ [x]) xs (by simp;omega) hxs' (C0.put C1 hid hni1) (G2.put2 hid) S2
       (hEn.1.imp (fun ⟨a1,a2,K,a3⟩=>⟨a1,a2,aj K (id - H.length) (.lin (g + 1)),by rw[a3,dc (by rw[← ai];exact hid)]⟩) (fun h=>h))
      rw[List.append_assoc] at key;have hnew:WC (aa H) u1.ns (aj H1 id (.lin (g + 1))) (.sl 3 ((acc ++ [x]).map AtF.av) (.live id (g + 1))) (acc ++ [x]):=.inr ⟨by simp,_,_,rfl,aO hgi1 _,hid,hni1⟩
      simp only[au,pG,yg,Bc,Bv,F5,SIM,ST0,ST1,h0,h1,h2,h12,h13,h14,hc,hias,hn,hP,uf,happ,ha,EXS,Nat.reduceAdd,Nat.reduceLeDiff];exact key _ hnew ⟨by first | rfl | exact h0,by first | rfl | exact h1,by first | rfl | exact h2,by first | rfl | exact h12,by first | rfl | exact h13,rfl⟩
theorem keep151:CC.keep 64=false:=by kernel_rfl
theorem mD (m:ia M){f:Ex→PS→Option (AtF × PS)}(hf:∀ e p a p',f e p=some (a,p')→p.w≤p'.w){kids:List Ex}(hk:kids.length≤90000)(ihk:∀ e ∈ kids,lx M uo bo so vo fo LV d vm fm base f e){V:AV}(hV:∀ (i:Nat) (a:Ex),kids[i]?=some a→bb 6 V (.int .i64 (i:Int))=some (.iptr a.v.cells))(hln:bn CC 81 V=some (.int .i64 (kids.length:Int)))
  {H:Heap} {u:UN} (C0:Cx uo bo so vo fo LV d vm fm base H u) {l:List AtF} {p' : PS} (hat:dy f kids u.p=some (l,p')) (hw:p'.w + 20 < 1000000) :
  ∃ H' u' esc V',orc CC M 64 [.ptr bo 0,.ptr so 0,.nils,V] H=some (.ret V' H' esc)∧Xz l V' (aa H')∧UI uo H' u'∧Gr uo H u.ns H' u'.ns∧u'.p=p'∧Same u u'∧DE uo H H' u u' esc:=by
 have lp:=ue m hf hk ihk hV C0 hw kids.length 0 rfl 100000 (by omega) H u (aa H) [] l (by simp) (by rw[List.drop_zero];exact hat) C0 Gr.refl Same.refl (.inl ⟨rfl,rfl,[],by simp⟩)
 have e0:(envOf [.ptr bo 0,.ptr so 0,.nils,V] 0 env0).a.a.a=.ptr bo 0:=rfl;have e1:(envOf [.ptr bo 0,.ptr so 0,.nils,V] 0 env0).a.a.b=.ptr so 0:=rfl;have e2:(envOf [.ptr bo 0,.ptr so 0,.nils,V] 0 env0).a.a.c=.nils:=rfl;have e3:(envOf [.ptr bo 0,.ptr so 0,.nils,V] 0 env0).a.a.d=V:=rfl
 obtain ⟨r0,hr0,hr1,hpre⟩ : ∃ r,r.a.b.b=.nils∧(r.a.a.a=.ptr bo 0∧r.a.a.b=.ptr so 0∧r.a.a.c=.nils∧r.a.b.e=V∧r.a.b.f=.int .i64 (kids.length:Int)∧r.a.b.g=.int .i64 ((0:Nat):Int)) ∧
   z64.sh (orc CC M) (envOf [.ptr bo 0,.ptr so 0,.nils,V] 0 env0) [] ⟨H,aa H⟩=dQ (ac (yu (orc CC M)) retZ) (du 0 (au (pG (orc CC M)) 100000 r [] ⟨H,aa H⟩)):=by
  generalize envOf [.ptr bo 0,.ptr so 0,.nils,V] 0 env0=R at e0 e1 e2 e3;simp only[z64,Ly,MY,MS,SIM,ST0,e0,e1,e2,e3,hln,Nat.reduceAdd,Nat.reduceLeDiff];exact ⟨_,rfl,⟨by first | rfl | exact e0,by first | rfl | exact e1,by first | rfl | exact e2,rfl,rfl,rfl⟩,rfl⟩
 obtain ⟨r',Hc,uc,e,hX,C,G,hp,S,hE,hA⟩:=lp r0 (by rw[hr0];exact .inl ⟨rfl,rfl⟩) hr1
 rw[List.nil_append] at hA
 obtain ⟨r2,h8,hX2⟩ : ∃ r2,r2.a.b.a=r'.a.b.b∧dQ (ac (yu (orc CC M)) retZ) (du 0 (some (.exit 0,r',[],⟨Hc,e⟩)))=some (.ret,r2,[],⟨Hc,e⟩):=by
  simp only[yu,SIM,ST0];exact ⟨_,rfl,rfl⟩
 have hfin:orc CC M 64 [.ptr bo 0,.ptr so 0,.nils,V] H=some (lU false (aa H) r'.a.b.b ⟨Hc,e⟩):=by
  refine aL (z:=z64) (m _ _ rfl) (by kernel_rfl) rfl ?_
  rw[hpre,hX,hX2]
  have hres:fG r2 Hc z64.res=some [r'.a.b.b]:=by
   show fG r2 _ [.t 8]=_;rw[kU,jD,show gt r2 8=r'.a.b.b from h8]
  rw[ju,hres,← keep151];rfl
 have huo:=C0.U.uo
 rcases hE with ⟨rfl,rfl,K,rfl⟩ | rfl
 ·have ht:bG (aa H) (H ++ K)=H:=cn _ _
  rcases hA with ⟨rfl,hn⟩ | ⟨hne,id,g,hn,hgi,hid,hni⟩
  ·refine ⟨H,uc,aa H,.nils,?_,.inl ⟨rfl,rfl⟩,C0.U,Gr.refl,hp,Same.refl,.inl ⟨rfl,rfl,rfl⟩⟩;rw[hfin,hn,iw rfl,ht]
  ·refine ⟨H,uc,aa H,.sl 3 (l.map AtF.av) .dead,?_,.inr ⟨hne,.dead,rfl,rfl⟩,C0.U,Gr.refl,hp,Same.refl,.inl ⟨rfl,rfl,rfl⟩⟩;rw[hfin,hn,gu (uF l) hid,ht]
 ·refine ⟨Hc,uc,e,r'.a.b.b,?_,?_,C.U,G,hp,S,.inr rfl⟩
  ·rw[hfin,eW (by omega)]
  ·rcases hA with ⟨rfl,hn⟩ | ⟨hne,id,g,hn,hgi,hid,hni⟩
   ·exact .inl ⟨rfl,hn⟩
   ·exact .inr ⟨hne,_,hn,by simp[Lin.low,dG hgi]⟩
end
def PS.eq (p:PS)(op:List Nat)(l:List AtF):AtF × PS:=(⟨false,0,p.vars⟩,{ p with vars:=p.vars + 1,eqs:=p.eqs ++ [⟨op,p.vars,l⟩] })
def PS.mem (p:PS):PS:={ p with vars:=p.vars + 1,nm:=p.nm + 6 }
def jm (nm:List Nat):List (List Nat × Nat)→Option Nat
 | []=>none
 | (s,v) :: r=>cond (strEq s nm) (some v) (jm nm r)
abbrev l5 (vm:List (List Nat × Nat)):List (List Nat × AV):=vm.map fun x=>(x.1,.int .i64 (x.2:Int))
theorem j5 {nm:List Nat}{v:Nat}:∀ {vm:List (List Nat × Nat)},jm nm vm=some v→gb nm (l5 vm)=some (.int .i64 (v:Int))
 | [],h=>by cases h
 | (s,w) :: r,h=>by
   simp only[jm] at h;simp only[l5,List.map_cons,gb];cases hs:strEq s nm with
   | true=>rw[hs] at h;simp only[cond_true,SJ] at h ⊢;rw[h]
   | false=>rw[hs] at h;simp only[cond_false] at h ⊢;exact j5 h
def zp (e:Ex):List Nat:=cond (Nat.beq e.k 4) [110,101,103] (cond (Nat.beq e.k 5) [110,111,116] (cond (Nat.beq e.k 6) e.s [105,102]))
def vT (k:Nat):Bool:=Nat.beq k 4 || Nat.beq k 5 || Nat.beq k 6 || Nat.beq k 7
def dD (vm:List (List Nat × Nat))(ext:Ex→PS→Option (AtF × PS)):Nat→Ex→PS→Option (AtF × PS)
 | 0,_,_=>none
 | k + 1,e,p=>cond (Nat.beq e.k 1 || Nat.beq e.k 2) (some (⟨true,e.n,0⟩,p)) (cond (Nat.beq e.k 3) (match jm e.s vm with
   | some v=>some (⟨false,0,v⟩,p)
   | none=>none) (cond (vT e.k) (match dy (dD vm ext k) e.kids p with
   | some (x :: l,p1)=>some (p1.eq (zp e) (x :: l))
   | _=>none) (cond (Nat.beq e.k 8) (match dy (dD vm ext k) e.kids p.mem with
   | some ([a,b],p1)=>some (p1.eq [105,102] [⟨false,0,p.vars⟩,a,b])
   | _=>none) (cond (Nat.beq e.k 9 || Nat.beq e.k 10) (match e.kids.getLast? with
   | some x=>match dD vm ext k x p.mem with
     | some (_,p1)=>some (⟨false,0,p.vars⟩,p1)
     | none=>none
   | none=>none) (cond (Nat.beq e.k 13 || Nat.beq e.k 14) (ext e p) none)))))
theorem Jk (p:PS)(op:List Nat)(l:List AtF):(p.eq op l).2.w=p.w + 2:=by simp[PS.eq,PS.w];omega
theorem xy (p:PS):p.mem.w=p.w + 7:=by simp[PS.mem,PS.w];omega
theorem ko {vm:List (List Nat × Nat)}{ext:Ex→PS→Option (AtF × PS)}(hx:∀ e p a p',ext e p=some (a,p')→p.w≤p'.w):∀ (k:Nat) (e:Ex) (p:PS) (a:AtF) (p' : PS),dD vm ext k e p=some (a,p')→p.w≤p'.w:=by
 intro k
 induction k with
 | zero=>intro e p a p' h;cases h
 | succ k ih =>
   intro e p a p' h;simp only[dD] at h;cases h1:(Nat.beq e.k 1 || Nat.beq e.k 2) with
   | true=>rw[h1] at h;simp only[cond_true,SJ,PJ] at h;rw[h.2];exact Nat.le_refl _
   | false =>
     rw[h1] at h;simp only[cond_false] at h;cases h3:Nat.beq e.k 3 with
     | true =>
       rw[h3] at h;simp only[cond_true] at h
       split at h
       ·simp only[SJ,PJ] at h;rw[h.2];exact Nat.le_refl _
       ·cases h
     | false =>
       rw[h3] at h;simp only[cond_false] at h;cases h4:vT e.k with
       | true =>
         rw[h4] at h;simp only[cond_true] at h
         split at h
         ·rename_i x l p1 hat;have:=ii ih _ _ _ _ hat;have h9:=Jk p1 (zp e) (x :: l);simp only[SJ] at h;rw[h] at h9;simp only at h9;omega
         ·cases h
       | false =>
         rw[h4] at h;simp only[cond_false] at h;cases h8:Nat.beq e.k 8 with
         | true =>
           rw[h8] at h;simp only[cond_true] at h
           split at h
           ·rename_i x y p1 hat;have:=ii ih _ _ _ _ hat;have h9:=Jk p1 [105,102] [⟨false,0,p.vars⟩,x,y];have h10:=xy p;simp only[SJ] at h;rw[h] at h9;simp only at h9;omega
           ·cases h
         | false =>
           rw[h8] at h;simp only[cond_false] at h;cases h9:(Nat.beq e.k 9 || Nat.beq e.k 10) with
           | true =>
             rw[h9] at h;simp only[cond_true] at h
             split at h
             ·split at h
              ·rename_i x hl _ p1 hp;have:=ih _ _ _ _ hp;have h10:=xy p;simp only[SJ,PJ] at h;rw[← h.2];omega
              ·cases h
             ·cases h
           | false =>
             rw[h9] at h;simp only[cond_false] at h;cases h13:(Nat.beq e.k 13 || Nat.beq e.k 14) with
             | true=>rw[h13] at h;exact hx _ _ _ _ h
             | false=>rw[h13] at h;cases h
theorem vA (e:Ex):bn CC 81 e.kv=some (.int .i64 (e.kids.length:Int)):=by
 obtain ⟨e',hu',rfl⟩:=cc121;unfold Ex.kv;rw[exL_map];cases hkk:e.kids with
 | nil=>rw[List.map_nil,dH];simp[cC,ew,hu']
 | cons a l=>rw[List.map_cons];simp only[cC];rw[cU hu'];simp
theorem rp (e:Ex):∀ (i:Nat) (a:Ex),e.kids[i]?=some a→bb 6 e.kv (.int .i64 (i:Int))=some (.iptr a.v.cells):=by
 intro i a h;unfold Ex.kv;rw[exL_map];cases hkk:e.kids with
 | nil=>rw[hkk] at h;simp at h
 | cons a' l =>
   rw[List.map_cons];simp only[cC];refine cq ?_;rw[← List.map_cons (f:=Ex.v),az,List.getElem?_map,← hkk,h];rfl
section
variable {M:Memo}{uo bo so vo fo:Nat}{LV:AV}{d:NdR}{vm:List (List Nat × Nat)}{fm:List (List Nat × AV)}{base:AV}
abbrev zA:AObj:=.cells [.bool false,.int .i64 0,.int .i64 0]
theorem AI (m:ia M)(ext:Ex→PS→Option (AtF × PS))(k:Nat){e:Ex}(h1:(Nat.beq e.k 1 || Nat.beq e.k 2)=true):lx M uo bo so vo fo LV d (l5 vm) fm base (dD vm ext (k + 1)) e:=by
 intro H u a p' hx C hw;simp only[dD,h1,cond_true,SJ,PJ] at hx;obtain ⟨rfl,rfl⟩:=hx;refine ⟨H,u,aa H,aL (z:=z74) (m _ _ rfl) (by kernel_rfl) rfl ?_,C.U,Gr.refl,rfl,Same.refl,.inl ⟨rfl,rfl,rfl⟩⟩
 have e0:(envOf [.ptr bo 0,.ptr so 0,e.v,.nils] 0 env0).a.a.c=e.v:=rfl;generalize envOf [.ptr bo 0,.ptr so 0,e.v,.nils] 0 env0=R at e0;have hbx:=lR e;have be:∀ n:Int,ar CC 97 [(0,.bool true),(1,.int .i64 n)]=some (.agg [.bool true,.int .i64 n,.int .i64 0]):=fun n=>by kernel_rfl
 have c1:decide ((e.k:Int)=1)=Nat.beq e.k 1:=n9 e.k 1;have c2:decide ((e.k:Int)=2)=Nat.beq e.k 2:=n9 e.k 2;cases hk1:Nat.beq e.k 1 with
 | true =>
   rw[hk1] at c1;simp only[z74,jO,kr,jV,ks,EL,SIM,ST0,ST1,e0,hbx,be,c1,Nat.reduceAdd,Nat.reduceLeDiff];rfl
 | false =>
   rw[hk1,Bool.false_or] at h1;rw[hk1] at c1;rw[h1] at c2;simp only[z74,jO,kr,jV,ks,EL,SIM,ST0,ST1,e0,hbx,be,c1,c2,Nat.reduceAdd,Nat.reduceLeDiff];rfl
theorem Ho (m:ia M)(ext:Ex→PS→Option (AtF × PS))(k:Nat){e:Ex}(h3:e.k=3):lx M uo bo so vo fo LV d (l5 vm) fm base (dD vm ext (k + 1)) e:=by
 intro H u a p' hx C hw;simp only[dD,h3] at hx;rw[show (Nat.beq 3 1 || Nat.beq 3 2)=false from rfl,show Nat.beq 3 3=true from rfl] at hx
 simp only[cond_true,cond_false] at hx
 split at hx
 ·rename_i v hv;simp only[SJ,PJ] at hx;obtain ⟨rfl,rfl⟩:=hx;refine ⟨H,u,aa H,aL (z:=z74) (m _ _ rfl) (by kernel_rfl) rfl ?_,C.U,Gr.refl,rfl,Same.refl,.inl ⟨rfl,rfl,rfl⟩⟩
  have e0:(envOf [.ptr bo 0,.ptr so 0,e.v,.nils] 0 env0).a.a.c=e.v:=rfl;have e1:(envOf [.ptr bo 0,.ptr so 0,e.v,.nils] 0 env0).a.a.b=.ptr so 0:=rfl;generalize envOf [.ptr bo 0,.ptr so 0,e.v,.nils] 0 env0=R at e0 e1;have hbx:=lR e;have c1:decide ((e.k:Int)=1)=false:=by rw[h3];rfl
  have c2:decide ((e.k:Int)=2)=false:=by rw[h3];rfl
  have c3:decide ((e.k:Int)=3)=true:=by rw[h3];rfl
  have hs:=fun K=>aw C.s K
  have hl:=fun K=>md (j5 hv) (aw C.v K)
  simp only[z74,jO,kr,jV,ks,nH,Lr,SIM,ST0,ST1,e0,e1,hbx,hs,hl,y4,Ju,c1,c2,c3,Nat.reduceAdd,Nat.reduceLeDiff]
 ·cases hx
end
theorem Wi (u:UN)(op:List Nat)(x:AtF)(l:List AtF)(lin:Lin)(on E' : AV):({ u with vars:=u.vars + 1,eqs:=u.eqs ++ [⟨op,u.vars,x :: l,lin,on⟩],E:=E' }:UN).p=(u.p.eq op (x :: l)).2:=by
 simp[UN.p,PS.eq,EqF.q]
section
variable {M:Memo}{uo bo so vo fo:Nat}{LV:AV}{d:NdR}{vm:List (List Nat × Nat)}{fm:List (List Nat × AV)}{base:AV}
theorem Gr.loc {H H' : Heap}{u:UN}{ns' : List Nat}(hU:UI uo H u){K:Heap}(G:Gr uo (H ++ K) u.ns H' ns'){j:Nat}(hj:j < aa K):ae H' (aa H + j)=ae K j∧aa H + j ∉ ns'∧aa H + j < aa H':=by
 have hn:aa H + j ∉ u.ns:=fun hm=>by have:=(hU.lt _ hm).2;omega
 have hl:aa (H ++ K)=aa H + aa K:=aI _ _;have:=G.len;refine ⟨by rw[G.fr _ (by omega) (by have:=hU.uo;omega) hn,bj],fun hm=>(G.ns _ hm).elim hn (fun h=>by omega),by omega⟩
theorem KB (m:ia M){ext:Ex→PS→Option (AtF × PS)}(hx:∀ e p a p',ext e p=some (a,p')→p.w≤p'.w)(hb:mc base)(k:Nat){e:Ex}(hop:vT e.k=true)(hkl:e.kids.length≤90000)(ihk:∀ a ∈ e.kids,lx M uo bo so vo fo LV d (l5 vm) fm base (dD vm ext k) a):lx M uo bo so vo fo LV d (l5 vm) fm base (dD vm ext (k + 1)) e:=by
 intro H u a p' hxx C hw
 have hk:e.k=4∨e.k=5∨e.k=6∨e.k=7:=by
  unfold vT at hop;simp only[Bool.or_eq_true,Nat.beq_eq] at hop;omega
 have hb12:(Nat.beq e.k 1 || Nat.beq e.k 2)=false:=by rcases hk with h | h | h | h <;> rw[h] <;> rfl
 have hb3:Nat.beq e.k 3=false:=by rcases hk with h | h | h | h <;> rw[h] <;> rfl
 simp only[dD,hb12,hb3,hop,cond_true,cond_false] at hxx
 split at hxx
 ·rename_i x l p1 hat;simp only[SJ] at hxx;have hpw:=Jk p1 (zp e) (x :: l);rw[hxx] at hpw;simp only at hpw;obtain ⟨H1,u1,e1,V1,hA,hL,U1,G1,hp1,S1,hD⟩:=mD m (ko hx k) hkl ihk (rp e) (vA e) (C.ap [dK e,zA]) hat (by omega)
  obtain ⟨h0,_⟩ | ⟨_,lin,rfl,hlin⟩:=hL
  ·cases h0
  have C1:=(C.ap [dK e,zA]).step U1 G1;have hg0:=G1.loc C.U (j:=0) (by rw[a9,a9,b9];omega)
  have hg1:=G1.loc C.U (j:=1) (by rw[a9,a9,b9];omega)
  obtain ⟨H2,E',hQ,U2,G2⟩:=CT m U1 C1.b C1.nb (by rw[← hp1,UN.pw] at hpw;omega) (zp e) (x :: l) (on:=gv0) (.inr rfl) hlin
  have h2n:aa H + 1 ∉ _:=fun hm=>(G2.ns _ hm).elim hg1.2.1 (fun h=>by have:=hg1.2.2;omega)
  have hz2:ae H2 (aa H + 1)=some zA:=by rw[G2.fr _ hg1.2.2 (by have:=C.U.uo;omega) hg1.2.1,hg1.1];rfl
  have hu2:=U2
  have hpa:a=⟨false,0,u1.vars⟩∧p'=(p1.eq (zp e) (x :: l)).2:=by
   have h1:u1.vars=p1.vars:=by rw[← hp1];rfl
   rw[hxx];refine ⟨?_,rfl⟩;have:=congrArg Prod.fst hxx;rw[h1];exact this.symm
  obtain ⟨rfl,rfl⟩:=hpa;have hlH:aa (H ++ [dK e,zA])=aa H + 2:=by rw[aI];rfl
  refine ⟨aj H2 (aa H + 1) (.cells [.bool false,.int .i64 0,.int .i64 (u1.vars:Int)]),_,uo,aL (z:=z74) (m _ _ rfl) (by kernel_rfl) rfl ?_,U2.to (by rw[an];exact Nat.le_refl _) (fun q hq hn=>af (by rintro rfl;rcases hn with h | h;(have:=C.U.uo;omega);exact h2n h) _),?_,?_,⟨S1.nd,S1.at_,S1.I,S1.O⟩,.inr rfl⟩
  ·have e0:(envOf [.ptr bo 0,.ptr so 0,e.v,.nils] 0 env0).a.a.a=.ptr bo 0:=rfl;have e1' : (envOf [.ptr bo 0,.ptr so 0,e.v,.nils] 0 env0).a.a.b=.ptr so 0:=rfl;have e2:(envOf [.ptr bo 0,.ptr so 0,e.v,.nils] 0 env0).a.a.c=e.v:=rfl;have e3:(envOf [.ptr bo 0,.ptr so 0,e.v,.nils] 0 env0).a.a.d=.nils:=rfl;generalize envOf [.ptr bo 0,.ptr so 0,e.v,.nils] 0 env0=R at e0 e1' e2 e3;have hbx:=lR e;have hgd:=gr m hb (C.ap [dK e,zA]).s;have hks:=xC e;have hge:ae (H ++ [dK e,zA]) (aa H)=some (dK e):=by rw[aD];rfl
   have hg0' : ae H1 (aa H)=some (dK e):=by have:=hg0.1;rw[Nat.add_zero] at this;rw[this];rfl
   have huo:=C.U.uo;have hm1:min (aa H) (aa H + 2)=aa H:=Nat.min_eq_left (by omega)
   have hm2:min (min (aa H) e1) uo=uo:=by
    rcases hD with ⟨h,_,_⟩ | h
    ·rw[h,hlH];omega
    ·omega
   have hzs:=fun c=>aO hz2 c
   have hgc:=fun hp=>eW (keep:=CC.keep 74) (base:=aa H) (e:=uo) (v:=AtF.av ⟨false,0,u1.vars⟩) (hp:=hp) (by omega)
   rw[hlH] at hgd
   rcases hk with h4 | h4 | h4 | h4
   all_goals
    have c1:decide ((e.k:Int)=1)=false:=by rw[h4];rfl
    have c2:decide ((e.k:Int)=2)=false:=by rw[h4];rfl
    have c3:decide ((e.k:Int)=3)=false:=by rw[h4];rfl
   ·have c4:decide ((e.k:Int)=4)=true:=by rw[h4];rfl
    have hop' : zp e=[110,101,103]:=by unfold zp;rw[h4];rfl
    rw[hop'] at hQ;simp only[z74,jO,kr,jV,ks,nH,pg,OB,SIM,ST0,ST1,e0,e1',e2,e3,hbx,hgd,hge,hks,hA,hQ,hm1,hm2,hz2,hzs,hgc,c1,c2,c3,c4,Nat.reduceAdd,Nat.reduceLeDiff]
   ·have c4:decide ((e.k:Int)=4)=false:=by rw[h4];rfl
    have c5:decide ((e.k:Int)=5)=true:=by rw[h4];rfl
    have hop' : zp e=[110,111,116]:=by unfold zp;rw[h4];rfl
    rw[hop'] at hQ;simp only[z74,jO,kr,jV,ks,nH,pg,tu,CE,SIM,ST0,ST1,e0,e1',e2,e3,hbx,hgd,hge,hks,hA,hQ,hm1,hm2,hz2,hzs,hgc,c1,c2,c3,c4,c5,Nat.reduceAdd,Nat.reduceLeDiff]
   ·have c4:decide ((e.k:Int)=4)=false:=by rw[h4];rfl
    have c5:decide ((e.k:Int)=5)=false:=by rw[h4];rfl
    have c6:decide ((e.k:Int)=6)=true:=by rw[h4];rfl
    have hop' : zp e=e.s:=by unfold zp;rw[h4];rfl
    rw[hop'] at hQ;simp only[z74,jO,kr,jV,ks,nH,pg,tu,qB,HV,SIM,ST0,ST1,e0,e1',e2,e3,hbx,hgd,hge,hg0',hks,hA,hQ,hm1,hm2,hz2,hzs,hgc,c1,c2,c3,c4,c5,c6,Nat.reduceAdd,Nat.reduceLeDiff]
   ·have c4:decide ((e.k:Int)=4)=false:=by rw[h4];rfl
    have c5:decide ((e.k:Int)=5)=false:=by rw[h4];rfl
    have c6:decide ((e.k:Int)=6)=false:=by rw[h4];rfl
    have c7:decide ((e.k:Int)=7)=true:=by rw[h4];rfl
    have hop' : zp e=[105,102]:=by unfold zp;rw[h4];rfl
    rw[hop'] at hQ;simp only[z74,jO,kr,jV,ks,nH,pg,tu,qB,uv,FC,SIM,ST0,ST1,ST2,e0,e1',e2,e3,hbx,hgd,hge,hks,hA,hQ,hm1,hm2,hz2,hzs,hgc,c1,c2,c3,c4,c5,c6,c7,Nat.reduceAdd,Nat.reduceLeDiff]
  ·exact ((Gr.ap.trans G1).trans G2).put2 (by omega)
  ·rw[Wi,hp1]
 ·cases hxx
end
theorem kg {L:Nat}:∀ {a b:List AV},aR L (a ++ b)=(aR L a && aR L b)
 | [],b=>by simp[aR]
 | x :: a,b=>by simp only[List.cons_append,aR,kg (a:=a) (b:=b),Bool.and_assoc]
theorem CP {q k i:Nat}(h:i < k):bb 6 (.rsl q 0 k k 6) (.int .i64 (i:Int))=some (.ptr q (i * 6)):=by
 simp[bb,cR,h]
theorem mS {cs v:List AV}{off:Nat}(h:off + v.length≤cs.length):(cu cs off v).length=cs.length:=by
 rw[ma h];simp[aZ];omega
theorem UI.setM {uo id n off:Nat}{H:Heap}{u:UN}{v:List AV}(h:UI uo H u)(hM:u.Ms=.rsl id 0 n n 6)(h1:v.all AV.one=true)(h2:∀ L,aR L v=true)(ho:off + v.length≤u.ms.length) :
  UI uo (aj H id (.cells (cu u.ms off v))) { u with ms:=cu u.ms off v }∧Gr uo H u.ns (aj H id (.cells (cu u.ms off v))) u.ns∧ae H id=some (.cells u.ms)∧id ∈ u.ns:=by
 have hidn:id ∈ nmA u.Ms:=by rw[hM];simp[nmA]
 have hm:=h.m;rw[hM] at hm;obtain ⟨_,hn⟩ | ⟨id',n',he,hn0,hg,hln,hone,hlow,hui⟩:=hm
 ·cases hn
 ·simp only[AV.rsl.injEq] at he;obtain ⟨rfl,_,rfl,_,_⟩:=he;have hl:aa H≤aa (aj H id (.cells (cu u.ms off v))):=by rw[an];exact Nat.le_refl _
  have hlen:(cu u.ms off v).length=u.ms.length:=mS ho
  have hsp:aR (aa H) (u.ms.take off)=true∧aR (aa H) (u.ms.drop (off + v.length))=true:=by
   have h3:aR (aa H) (u.ms.take off ++ u.ms.drop off)=true:=by rw[List.take_append_drop];exact hlow
   have h4:aR (aa H) (u.ms.take (off + v.length) ++ u.ms.drop (off + v.length))=true:=by rw[List.take_append_drop];exact hlow
   rw[kg,Bool.and_eq_true] at h3 h4;exact ⟨h3.1,h4.2⟩
  have hlow' : aR (aa H) (cu u.ms off v)=true:=by
   rw[ma ho,aZ,kg,kg,hsp.1,hsp.2,h2];rfl
  have hone' : (cu u.ms off v).all AV.one=true:=by
   rw[ma ho,aZ,List.all_append,List.all_append,h1,Bool.and_true,Bool.and_eq_true];exact ⟨List.all_eq_true.2 fun x hx=>List.all_eq_true.1 hone x (List.mem_of_mem_take hx),List.all_eq_true.2 fun x hx=>List.all_eq_true.1 hone x (List.mem_of_mem_drop hx)⟩
  refine ⟨⟨by rw[af (by omega)];exact h.ob,h.e.mono hl (fun q hq _=>af (fun he=>(h.dj.1 q hq).1 (by rw[he];exact hidn)) _),h.el,?_,h.w.mono hl (fun q hq _=>af (fun he=>(h.dj.2.1 id hidn).1 (by rw[← he];exact hq)) _),h.s.mono hl (fun q hq _=>af (fun he=>(h.dj.2.1 id hidn).2 (by rw[← he];exact hq)) _),h.dj,?_⟩,⟨hl,fun q hq hu hn=>af (fun he=>hn (dV.2 (.inr (.inl (by rw[he];exact hidn))))) _,fun q hq=>.inl hq⟩,hg,dV.2 (.inr (.inl hidn))⟩
  ·refine .inr ⟨id,n,hM,hn0,aO hg _,by rw[hlen,hln],hone',by rw[an];exact hlow',hui⟩
  ·have:=h.vl;simp only[hlen];exact this
theorem AB (a b c:AtF):aP CC 88 3 [(0,a.av),(1,b.av),(2,c.av)]=some (.sl 3 [a.av,b.av,c.av] .lit):=by
 have:∀ (a1 b1 c1:Bool) (a2 a3 b2 b3 c2 c3:Int),aP CC 88 3 [(0,.agg [.bool a1,.int .i64 a2,.int .i64 a3]),(1,.agg [.bool b1,.int .i64 b2,.int .i64 b3]),(2,.agg [.bool c1,.int .i64 c2,.int .i64 c3])]=some (.sl 3 [.agg [.bool a1,.int .i64 a2,.int .i64 a3],.agg [.bool b1,.int .i64 b2,.int .i64 b3],.agg [.bool c1,.int .i64 c2,.int .i64 c3]] .lit):=fun _ _ _ _ _ _ _ _ _=>by kernel_rfl
 exact this _ _ _ _ _ _ _ _ _
theorem jU (a:AtF):AV.same a.av a.av=true:=by simp[AV.same,sameL]
theorem RU (b:Bool):ar CC 97 [(0,.bool b)]=some (.agg [.bool b,.int .i64 0,.int .i64 0]):=by kernel_rfl
section
variable {M:Memo}{uo bo so vo fo:Nat}{LV:AV}{d:NdR}{vm:List (List Nat × Nat)}{fm:List (List Nat × AV)}{base:AV}
theorem rV (m:ia M){f:Ex→PS→Option (AtF × PS)}(hf:∀ e p a p',f e p=some (a,p')→p.w≤p'.w)(hb:mc base){e:Ex}(h8:e.k=8)(hkl:e.kids.length≤90000)(ihk:∀ a ∈ e.kids,lx M uo bo so vo fo LV d (l5 vm) fm base f a)
  {H:Heap} {u:UN} {a b:AtF} {p1:PS} (hat:dy f e.kids u.p.mem=some ([a,b],p1)) (C:Cx uo bo so vo fo LV d (l5 vm) fm base H u) (hw:p1.w + 22 < 1000000) :
  ∃ H' u',orc CC M 84 [.ptr bo 0,.ptr so 0,e.v,.nils] H=some (.ret (AtF.av ⟨false,0,p1.vars⟩) H' uo)∧UI uo H' u'∧Gr uo H u.ns H' u'.ns∧u'.p=(p1.eq [105,102] [⟨false,0,u.vars⟩,a,b]).2∧Same u u':=by
 have hmw:=ii hf _ _ _ _ hat;have hmw2:=xy u.p;have hpw:=UN.pw u;have C0:=C.ap [dK e,zA];obtain ⟨Hm,k,id,hM,hk6,U1,G1⟩:=yQ m C0.U C0.b C0.nb (by omega) 1 (on:=gv0) (.inr rfl)
 have C1:=C0.step U1 G1;generalize hu1:({ u with vars:=u.vars + 1,ms:=u.ms ++ [.int .i64 (u.vars:Int),.int .i64 1,.bool false,.int .i64 0,.int .i64 0,gv0],Ms:=.rsl id 0 (k + 1) (k + 1) 6 }:UN)=u1 at U1 G1 C1
 have hMs:u1.Ms=.rsl id 0 (k + 1) (k + 1) 6:=by rw[← hu1]
 have hml:u1.ms.length=k * 6 + 6:=by rw[← hu1];simp[hk6]
 have hp1:u1.p=u.p.mem:=by rw[← hu1];simp[UN.p,PS.mem]
 have S1:Same u u1:=by rw[← hu1];exact ⟨rfl,rfl,rfl,rfl⟩
 have C2:=C1.ap [.cells [.bool false,.int .i64 0,.int .i64 (u.vars:Int)]];obtain ⟨U3,G3,hg3,hid3⟩:=C2.U.setM (v:=[.bool true,.int .i64 0,.int .i64 0]) (off:=k * 6 + 2) hMs rfl (fun L=>rfl) (by simp;omega)
 have hst3:∀ ee,ay 3 (.ptr id (k * 6 + 2)) (.agg [.bool true,.int .i64 0,.int .i64 0]) ⟨Hm ++ [.cells [.bool false,.int .i64 0,.int .i64 (u.vars:Int)]],ee⟩=some ⟨aj (Hm ++ [.cells [.bool false,.int .i64 0,.int .i64 (u.vars:Int)]]) id (.cells (cu u1.ms (k * 6 + 2) [.bool true,.int .i64 0,.int .i64 0])),ee⟩:=fun ee=>Gx hg3 rfl (by rw[ai,hml];omega) rfl rfl
 have C3:=C2.step U3 G3;generalize hH3:aj (Hm ++ [.cells [.bool false,.int .i64 0,.int .i64 (u.vars:Int)]]) id (.cells (cu u1.ms (k * 6 + 2) [.bool true,.int .i64 0,.int .i64 0]))=H3 at U3 G3 C3 hst3
 have hu3p:({ u1 with ms:=cu u1.ms (k * 6 + 2) [.bool true,.int .i64 0,.int .i64 0] }:UN).p=u.p.mem:=by
  rw[← hp1];simp only[UN.p,mS (cs:=u1.ms) (v:=[.bool true,.int .i64 0,.int .i64 0]) (off:=k * 6 + 2) (by simp;omega)]
 generalize hu3:({ u1 with ms:=cu u1.ms (k * 6 + 2) [.bool true,.int .i64 0,.int .i64 0] }:UN)=u3 at U3 G3 C3 hu3p
 have hns3:u3.ns=u1.ns:=by rw[← hu3];rfl
 have S3:Same u u3:=by rw[← hu3];exact ⟨S1.nd,S1.at_,S1.I,S1.O⟩
 obtain ⟨H4,u4,e4,V4,hA,hL,U4,G4,hp4,S4,hD⟩:=mD m hf hkl ihk (rp e) (vA e) C3 (by rw[hu3p];exact hat) (by omega)
 obtain ⟨h0,_⟩ | ⟨_,lin,rfl,hlin⟩:=hL
 ·cases h0
 have C4:=C3.step U4 G4;obtain ⟨H5,E',hQ,U5,G5⟩:=CT m U4 C4.b C4.nb (by rw[← hp4,UN.pw] at hw;omega) [105,102] [⟨false,0,u.vars⟩,a,b] (lin:=.lit) (on:=gv0) (.inr rfl) rfl
 have K3:Gr uo (H ++ [dK e,zA]) u.ns H3 u3.ns:=by rw[hns3];exact (G1.trans Gr.ap).trans G3
 have K4:=K3.trans G4;have K5:=K4.trans G5;have l0:=K3.loc C.U (j:=0) (by rw[a9,a9,b9];omega)
 have l0' : ae H3 (aa H)=some (dK e):=by have:=l0.1;rw[Nat.add_zero] at this;rw[this];rfl
 have l1:=K5.loc C.U (j:=1) (by rw[a9,a9,b9];omega)
 have l1' : ae H5 (aa H + 1)=some zA:=by rw[l1.1];rfl
 have m0:ae (H ++ [dK e,zA]) (aa H)=some (dK e):=by rw[aD];rfl
 have m0m:ae Hm (aa H)=some (dK e):=by
  have:=(G1.loc C.U (j:=0) (by rw[a9,a9,b9];omega)).1
  rw[Nat.add_zero] at this;rw[this];rfl
 have hlm:aa H + 2≤aa Hm:=by have:=G1.len;rw[aI] at this;exact this
 have kk:=(G3.trans (by rw[← hns3] at *;exact G4)).loc (H:=Hm) (K:=[.cells [.bool false,.int .i64 0,.int .i64 (u.vars:Int)]]) (u:=u1) U1 (j:=0) (by rw[a9,b9];omega)
 have kk' : ae H4 (aa Hm)=some (.cells [.bool false,.int .i64 0,.int .i64 (u.vars:Int)]):=by have:=kk.1;rw[Nat.add_zero] at this;rw[this];rfl
 have hv4:u4.vars=p1.vars:=by rw[← hp4];rfl
 have huo:=C.U.uo;have hl4:=C4.U.uo;have h5n:aa H + 1 ∉ ({ u4 with vars:=u4.vars + 1,eqs:=u4.eqs ++ [⟨[105,102],u4.vars,[⟨false,0,u.vars⟩,a,b],.lit,gv0⟩],E:=E' }:UN).ns:=l1.2.1
 refine ⟨aj H5 (aa H + 1) (.cells [.bool false,.int .i64 0,.int .i64 (u4.vars:Int)]),_,?_,U5.to (by rw[an];exact Nat.le_refl _) (fun q hq hn=>af (by rintro rfl;rcases hn with h | h;(omega);exact h5n h) _),(Gr.ap.trans K5).put2 (by omega),by rw[Wi,hp4],⟨S4.nd.trans S3.nd,S4.at_.trans S3.at_,S4.I.trans S3.I,S4.O.trans S3.O⟩⟩
 rw[← hv4];refine aL (z:=z84) (m _ _ rfl) (by kernel_rfl) rfl ?_
 have e0:(envOf [.ptr bo 0,.ptr so 0,e.v,.nils] 0 env0).a.a.a=.ptr bo 0:=rfl;have e1:(envOf [.ptr bo 0,.ptr so 0,e.v,.nils] 0 env0).a.a.b=.ptr so 0:=rfl;have e2:(envOf [.ptr bo 0,.ptr so 0,e.v,.nils] 0 env0).a.a.c=e.v:=rfl;have e3:(envOf [.ptr bo 0,.ptr so 0,e.v,.nils] 0 env0).a.a.d=.nils:=rfl;generalize envOf [.ptr bo 0,.ptr so 0,e.v,.nils] 0 env0=R at e0 e1 e2 e3;have hbx:=lR e;have c8:decide ((e.k:Int)=8)=true:=by rw[h8];rfl
 have hlH:aa (H ++ [dK e,zA])=aa H + 2:=by rw[aI];rfl
 have hgd0:=gr m hb C0.s;have hgd4:=gr m hb C4.s;rw[hlH] at hgd0;have hm1:min (aa H) (aa H + 2)=aa H:=Nat.min_eq_left (by omega)
 have hm2:min (aa H) uo=uo:=Nat.min_eq_right (by omega)
 have hm4:min uo e4=uo:=by
  rcases hD with ⟨h,_,_⟩ | h
  ·have:=C3.U.uo;omega
  ·omega
 have hm5:min uo (aa H4)=uo:=Nat.min_eq_left (by omega)
 have hE2:=C2.U.ob;have hb2:=C2.b;have hias:=CP (q:=id) (k:=k + 1) (i:=k) (by omega)
 have hst3' : ∀ ee,ay 3 (.ptr id ((k * 6).add 2)) (.agg [.bool true,.int .i64 0,.int .i64 0]) ⟨Hm ++ [.cells [.bool false,.int .i64 0,.int .i64 (u.vars:Int)]],ee⟩=some ⟨H3,ee⟩:=hst3;have hs0:=jU ⟨false,0,u.vars⟩;have hsa:=jU a;have hsb:=jU b;have hV4:[a,b].map AtF.av=[a.av,b.av]:=rfl;rw[hV4] at hA;have hV5:[(⟨false,0,u.vars⟩ : AtF),a,b].map AtF.av=[AtF.av ⟨false,0,u.vars⟩,a.av,b.av]:=rfl;rw[hV5] at hQ;have hi0:bb 3 (.sl 3 [a.av,b.av] lin) (.int .i64 0)=some (.iptr [.bool a.c,.int .i64 a.n,.int .i64 (a.v:Int)]):=rfl;have hi1:bb 3 (.sl 3 [a.av,b.av] lin) (.int .i64 1)=some (.iptr [.bool b.c,.int .i64 b.n,.int .i64 (b.v:Int)]):=rfl;have h3:=AB ⟨false,0,u.vars⟩ a b;have hzs:=fun c=>aO l1' c
 have hgc:=fun hp=>eW (keep:=CC.keep 84) (base:=aa H) (e:=uo) (v:=AtF.av ⟨false,0,u4.vars⟩) (hp:=hp) (by omega)
 simp only[z84,yP,yB,Ns,Mk,NV,Ol,SIM,ST0,ST1,e0,e1,e2,e3,hbx,c8,hgd0,hM,hm1,hm2,hE2,hb2,xG,hMs,RU,hias,hst3',m0,l0',hA,hm4,hgd4,hm5,kk',hs0,hsa,hsb,hi0,hi1,h3,hQ,l1',hzs,hgc,Nat.min_self,Nat.reduceAdd,Nat.reduceLeDiff]
end
theorem kN {f:Ex→PS→Option (AtF × PS)}(hf:∀ e p a p',f e p=some (a,p')→p.nm≤p'.nm):∀ (l:List Ex) (p:PS) (xs:List AtF) (p' : PS),dy f l p=some (xs,p')→p.nm≤p'.nm
 | [],p,xs,p',h=>by simp only[dy,SJ,PJ] at h;rw[h.2];exact Nat.le_refl _
 | a :: l,p,xs,p',h=>by
   simp only[dy] at h
   split at h
   ·cases h
   ·rename_i x p1 h1
    split at h
    ·cases h
    ·rename_i ys p2 h2;simp only[SJ,PJ] at h;rw[← h.2];exact Nat.le_trans (hf _ _ _ _ h1) (kN hf l _ _ _ h2)
theorem BY {vm:List (List Nat × Nat)}{ext:Ex→PS→Option (AtF × PS)}(hx:∀ e p a p',ext e p=some (a,p')→p.nm≤p'.nm):∀ (k:Nat) (e:Ex) (p:PS) (a:AtF) (p' : PS),dD vm ext k e p=some (a,p')→p.nm≤p'.nm:=by
 intro k
 induction k with
 | zero=>intro e p a p' h;cases h
 | succ k ih =>
   intro e p a p' h;simp only[dD] at h;cases h1:(Nat.beq e.k 1 || Nat.beq e.k 2) with
   | true=>rw[h1] at h;simp only[cond_true,SJ,PJ] at h;rw[h.2];exact Nat.le_refl _
   | false =>
     rw[h1] at h;simp only[cond_false] at h;cases h3:Nat.beq e.k 3 with
     | true =>
       rw[h3] at h;simp only[cond_true] at h
       split at h
       ·simp only[SJ,PJ] at h;rw[h.2];exact Nat.le_refl _
       ·cases h
     | false =>
       rw[h3] at h;simp only[cond_false] at h;cases h4:vT e.k with
       | true =>
         rw[h4] at h;simp only[cond_true] at h
         split at h
         ·rename_i x l p1 hat;have:=kN ih _ _ _ _ hat;simp only[SJ,PS.eq,PJ] at h;rw[← h.2];exact this
         ·cases h
       | false =>
         rw[h4] at h;simp only[cond_false] at h;cases h8:Nat.beq e.k 8 with
         | true =>
           rw[h8] at h;simp only[cond_true] at h
           split at h
           ·rename_i x y p1 hat;have:=kN ih _ _ _ _ hat;simp only[SJ,PS.eq,PJ] at h;rw[← h.2];have h9:p.nm≤p.mem.nm:=Nat.le_add_right _ _;exact Nat.le_trans h9 this
           ·cases h
         | false =>
           rw[h8] at h;simp only[cond_false] at h;cases h9:(Nat.beq e.k 9 || Nat.beq e.k 10) with
           | true =>
             rw[h9] at h;simp only[cond_true] at h
             split at h
             ·split at h
              ·rename_i x hl _ p1 hp;have:=ih _ _ _ _ hp;simp only[SJ,PJ] at h;rw[← h.2];have h9:p.nm≤p.mem.nm:=Nat.le_add_right _ _;exact Nat.le_trans h9 this
              ·cases h
             ·cases h
           | false =>
             rw[h9] at h;simp only[cond_false] at h;cases h13:(Nat.beq e.k 13 || Nat.beq e.k 14) with
             | true=>rw[h13] at h;exact hx _ _ _ _ h
             | false=>rw[h13] at h;cases h
section
variable {M:Memo}{uo bo so vo fo:Nat}{LV:AV}{d:NdR}{vm:List (List Nat × Nat)}{fm:List (List Nat × AV)}{base:AV}
theorem z3 (m:ia M){f:Ex→PS→Option (AtF × PS)}(hf:∀ e p a p',f e p=some (a,p')→p.w≤p'.w)(hn:∀ e p a p',f e p=some (a,p')→p.nm≤p'.nm)(hb:mc base){e x:Ex}(h9:(Nat.beq e.k 9 || Nat.beq e.k 10)=true)(hkl:e.kids.length≤90000)(hlast:e.kids.getLast?=some x)(ihx:lx M uo bo so vo fo LV d (l5 vm) fm base f x)
  {H:Heap} {u:UN} {a:AtF} {p1:PS} (hx:f x u.p.mem=some (a,p1)) (C:Cx uo bo so vo fo LV d (l5 vm) fm base H u) (hw:p1.w + 20 < 1000000) :
  ∃ H' u',orc CC M 84 [.ptr bo 0,.ptr so 0,e.v,.nils] H=some (.ret (AtF.av ⟨false,0,u.vars⟩) H' uo)∧UI uo H' u'∧Gr uo H u.ns H' u'.ns∧u'.p=p1∧Same u u':=by
 have hmw:=hf _ _ _ _ hx;have hmw2:=xy u.p;have hpw:=UN.pw u;have hnm:=hn _ _ _ _ hx;have C0:=C.ap [dK e,zA];obtain ⟨init,hinit⟩ : ∃ init:Int,init=cond (Nat.beq e.k 9) ((e.kids.headD x).n) 0:=⟨_,rfl⟩;obtain ⟨Hm,k,id,hM,hk6,U1,G1⟩:=yQ m C0.U C0.b C0.nb (by omega) init (on:=gv0) (.inr rfl)
 have C1:=C0.step U1 G1;generalize hu1:({ u with vars:=u.vars + 1,ms:=u.ms ++ [.int .i64 (u.vars:Int),.int .i64 init,.bool false,.int .i64 0,.int .i64 0,gv0],Ms:=.rsl id 0 (k + 1) (k + 1) 6 }:UN)=u1 at U1 G1 C1
 have hp1:u1.p=u.p.mem:=by rw[← hu1];simp[UN.p,PS.mem]
 have S1:Same u u1:=by rw[← hu1];exact ⟨rfl,rfl,rfl,rfl⟩
 have C2:=C1.ap [.cells [.bool false,.int .i64 0,.int .i64 (u.vars:Int)]];obtain ⟨H2,u2,e2,hA,U2,G2,hp2,S2,hD⟩:=ihx _ u1 a p1 (by rw[hp1];exact hx) C2 (by omega)
 have C3:=(C2.step U2 G2).ap [.cells [.bool a.c,.int .i64 a.n,.int .i64 (a.v:Int)]];have hms2:u2.ms.length=p1.nm:=by rw[← hp2];rfl
 have hnm2:k * 6 + 6≤u2.ms.length:=by rw[hms2];simp only[PS.mem,UN.p] at hnm;omega
 obtain ⟨id2,n2,hMs2,hn2⟩ : ∃ id2 n2,u2.Ms=.rsl id2 0 n2 n2 6∧k < n2:=by
  rcases U2.m with ⟨h0,_⟩ | ⟨id2,n2,h0,_,_,hl,_⟩
  ·rw[h0] at hnm2;simp at hnm2
  ·exact ⟨id2,n2,h0,by omega⟩
 obtain ⟨U4,G4,hg4,hid4⟩:=C3.U.setM (v:=[.bool a.c,.int .i64 a.n,.int .i64 (a.v:Int)]) (off:=k * 6 + 2) hMs2 rfl (fun L=>rfl) (by simp;omega)
 have hst4:∀ ee,ay 3 (.ptr id2 ((k * 6).add 2)) (.agg [.bool a.c,.int .i64 a.n,.int .i64 (a.v:Int)]) ⟨H2 ++ [.cells [.bool a.c,.int .i64 a.n,.int .i64 (a.v:Int)]],ee⟩=some ⟨aj (H2 ++ [.cells [.bool a.c,.int .i64 a.n,.int .i64 (a.v:Int)]]) id2 (.cells (cu u2.ms (k * 6 + 2) [.bool a.c,.int .i64 a.n,.int .i64 (a.v:Int)])),ee⟩:=fun ee=>Gx (off:=k * 6 + 2) hg4 rfl (by rw[ai];omega) rfl rfl
 have C4:=C3.step U4 G4;have K2:Gr uo (H ++ [dK e,zA]) u.ns H2 u2.ns:=(G1.trans Gr.ap).trans G2;have K4:=(K2.trans (Gr.ap (K:=[.cells [.bool a.c,.int .i64 a.n,.int .i64 (a.v:Int)]]))).trans G4;generalize hH4:aj (H2 ++ [.cells [.bool a.c,.int .i64 a.n,.int .i64 (a.v:Int)]]) id2 (.cells (cu u2.ms (k * 6 + 2) [.bool a.c,.int .i64 a.n,.int .i64 (a.v:Int)]))=H4 at U4 G4 C4 hst4 K4
 have hu4p:({ u2 with ms:=cu u2.ms (k * 6 + 2) [.bool a.c,.int .i64 a.n,.int .i64 (a.v:Int)] }:UN).p=p1:=by
  rw[← hp2];simp only[UN.p,mS (cs:=u2.ms) (v:=[.bool a.c,.int .i64 a.n,.int .i64 (a.v:Int)]) (off:=k * 6 + 2) (by simp;omega)]
 have l1:=K4.loc C.U (j:=1) (by rw[a9,a9,b9];omega)
 have l1' : ae H4 (aa H + 1)=some zA:=by rw[l1.1];rfl
 have m0:ae (H ++ [dK e,zA]) (aa H)=some (dK e):=by rw[aD];rfl
 have m0m:ae Hm (aa H)=some (dK e):=by
  have:=(G1.loc C.U (j:=0) (by rw[a9,a9,b9];omega)).1
  rw[Nat.add_zero] at this;rw[this];rfl
 have kk:=((G2.trans (Gr.ap (K:=[.cells [.bool a.c,.int .i64 a.n,.int .i64 (a.v:Int)]]))).trans G4).loc (H:=Hm) (K:=[.cells [.bool false,.int .i64 0,.int .i64 (u.vars:Int)]]) (u:=u1) U1 (j:=0) (by rw[a9,b9];omega)
 have kk' : ae H4 (aa Hm)=some (.cells [.bool false,.int .i64 0,.int .i64 (u.vars:Int)]):=by have:=kk.1;rw[Nat.add_zero] at this;rw[this];rfl
 have huo:=C.U.uo;have h4n:aa H + 1 ∉ u2.ns:=l1.2.1;refine ⟨aj H4 (aa H + 1) (.cells [.bool false,.int .i64 0,.int .i64 (u.vars:Int)]),_,?_,U4.to (by rw[an];exact Nat.le_refl _) (fun q hq hn=>af (by rintro rfl;rcases hn with h | h;(omega);exact h4n h) _),(Gr.ap.trans K4).put2 (by omega),hu4p,⟨S2.nd.trans S1.nd,S2.at_.trans S1.at_,S2.I.trans S1.I,S2.O.trans S1.O⟩⟩
 refine aL (z:=z84) (m _ _ rfl) (by kernel_rfl) rfl ?_
 have e0:(envOf [.ptr bo 0,.ptr so 0,e.v,.nils] 0 env0).a.a.a=.ptr bo 0:=rfl;have e1:(envOf [.ptr bo 0,.ptr so 0,e.v,.nils] 0 env0).a.a.b=.ptr so 0:=rfl;have e2' : (envOf [.ptr bo 0,.ptr so 0,e.v,.nils] 0 env0).a.a.c=e.v:=rfl;have e3:(envOf [.ptr bo 0,.ptr so 0,e.v,.nils] 0 env0).a.a.d=.nils:=rfl;generalize envOf [.ptr bo 0,.ptr so 0,e.v,.nils] 0 env0=R at e0 e1 e2' e3;have hbx:=lR e;have hlH:aa (H ++ [dK e,zA])=aa H + 2:=by rw[aI];rfl
 have hgd0:=gr m hb C0.s;rw[hlH] at hgd0;have hm1:min (aa H) (aa H + 2)=aa H:=Nat.min_eq_left (by omega)
 have hm2:min (aa H) uo=uo:=Nat.min_eq_right (by omega)
 have hm4:min uo e2=uo:=by
  rcases hD with ⟨h,_,_⟩ | h
  ·have:=C2.U.uo;omega
  ·omega
 have hE3:=C3.U.ob;have hb3:=C3.b;have hias:=CP (q:=id2) (k:=n2) (i:=k) hn2;have hzs:=fun c=>aO l1' c
 have hgc:=fun hp=>eW (keep:=CC.keep 84) (base:=aa H) (e:=uo) (v:=AtF.av ⟨false,0,u.vars⟩) (hp:=hp) (by omega)
 have m0m':=aw m0m [.cells [.bool false,.int .i64 0,.int .i64 (u.vars:Int)]];have hln:=vA e
 obtain ⟨y,l,hkids⟩ : ∃ y l,e.kids=y :: l:=by
  cases hkk:e.kids with
  | nil=>rw[hkk] at hlast;cases hlast
  | cons y l=>exact ⟨y,l,rfl⟩
 have hsub:eO (e.kids.length:Int) 1=((e.kids.length - 1:Nat):Int):=by
  show eO (.ofNat e.kids.length) (.ofNat 1)=_;have h1:Nat.ble 1 e.kids.length=true:=by rw[dk,hkids];simp
  have h2:Nat.ble e.kids.length natMax=true:=by rw[dk,decide_eq_true_eq];unfold natMax;omega
  simp only[eO,h1,h2,Bool.and_self,cond_true];rfl
 have hlx:e.kids[e.kids.length - 1]?=some x:=by rw[← hlast,List.getLast?_eq_getElem?]
 have hix:=rp e _ x hlx;have hi0:bb 6 e.kv (.int .i64 0)=some (.iptr y.v.cells):=rp e 0 y (by rw[hkids];rfl)
 have hfa:∀ a b c d e f:AV,aG 2 (.iptr [a,b,c,d,e,f])=some (.iptr [c,d,e,f]):=fun _ _ _ _ _ _=>rfl
 have hld:∀ (c d e f:AV) (h:Heap),ax none (.iptr [c,d,e,f]) h=some c:=fun _ _ _ _ _=>rfl
 have hsx:=jU a;cases h9' : Nat.beq e.k 9 with
 | true =>
   have hk9:=Nat.eq_of_beq_eq_true h9';have c8:decide ((e.k:Int)=8)=false:=by rw[hk9];rfl
   have c9:decide ((e.k:Int)=9)=true:=by rw[hk9];rfl
   have hin:init=y.n:=by rw[hinit,h9',hkids];rfl
   rw[hin] at hM;simp only[z84,yP,yB,CB,AT,Ag,Gj,u6,vI,vY,vB,SIM,ST0,ST1,e0,e1,e2',e3,hbx,c8,c9,hi0,hfa,hld,hgd0,hM,hm1,hm2,m0,m0m,m0m',hln,hsub,hix,hA,hm4,hE3,hb3,xG,hMs2,hias,hst4,kk',l1',hzs,hgc,EXS,Nat.min_self,Nat.reduceAdd,Nat.reduceLeDiff]
 | false =>
   rw[h9',Bool.false_or] at h9;have hk10:=Nat.eq_of_beq_eq_true h9;have c8:decide ((e.k:Int)=8)=false:=by rw[hk10];rfl
   have c9:decide ((e.k:Int)=9)=false:=by rw[hk10];rfl
   have hin:init=0:=by rw[hinit,h9'];rfl
   rw[hin] at hM;simp only[z84,yP,yB,CB,AT,Ag,Gj,u6,vI,vY,vB,SIM,ST0,ST1,e0,e1,e2',e3,hbx,c8,c9,hi0,hfa,hld,hgd0,hM,hm1,hm2,m0,m0m,m0m',hln,hsub,hix,hA,hm4,hE3,hb3,xG,hMs2,hias,hst4,kk',l1',hzs,hgc,EXS,Nat.min_self,Nat.reduceAdd,Nat.reduceLeDiff]
end
section
variable {M:Memo}{uo bo so vo fo:Nat}{LV:AV}{d:NdR}{vm:List (List Nat × Nat)}{fm:List (List Nat × AV)}{base:AV}
theorem sc (m:ia M){e:Ex}(hk:e.k=8∨e.k=9∨e.k=10){H:Heap}{u u' : UN}{H1:Heap}{v:Nat}(C:Cx uo bo so vo fo LV d (l5 vm) fm base H u)
  (hA:orc CC M 84 [.ptr bo 0,.ptr so 0,e.v,.nils] (H ++ [dK e,zA])=some (.ret (AtF.av ⟨false,0,v⟩) H1 uo)) (U1:UI uo H1 u') (G1:Gr uo (H ++ [dK e,zA]) u.ns H1 u'.ns) :
  ∃ H',orc CC M 74 [.ptr bo 0,.ptr so 0,e.v,.nils] H=some (.ret (AtF.av ⟨false,0,v⟩) H' uo)∧UI uo H' u'∧Gr uo H u.ns H' u'.ns:=by
 have l1:=G1.loc C.U (j:=1) (by rw[a9,a9,b9];omega)
 have l1' : ae H1 (aa H + 1)=some zA:=by rw[l1.1];rfl
 have m0:ae (H ++ [dK e,zA]) (aa H)=some (dK e):=by rw[aD];rfl
 have huo:=C.U.uo;refine ⟨aj H1 (aa H + 1) (.cells [.bool false,.int .i64 0,.int .i64 (v:Int)]),?_,U1.to (by rw[an];exact Nat.le_refl _) (fun q hq hn=>af (by rintro rfl;rcases hn with h | h;(omega);exact l1.2.1 h) _),(Gr.ap.trans G1).put2 (by omega)⟩
 refine aL (z:=z74) (m _ _ rfl) (by kernel_rfl) rfl ?_
 have e0:(envOf [.ptr bo 0,.ptr so 0,e.v,.nils] 0 env0).a.a.a=.ptr bo 0:=rfl;have e1:(envOf [.ptr bo 0,.ptr so 0,e.v,.nils] 0 env0).a.a.b=.ptr so 0:=rfl;have e2:(envOf [.ptr bo 0,.ptr so 0,e.v,.nils] 0 env0).a.a.c=e.v:=rfl;have e3:(envOf [.ptr bo 0,.ptr so 0,e.v,.nils] 0 env0).a.a.d=.nils:=rfl;generalize envOf [.ptr bo 0,.ptr so 0,e.v,.nils] 0 env0=R at e0 e1 e2 e3;have hbx:=lR e;have cc:∀ j:Nat,j ≠ e.k→decide ((e.k:Int)=(j:Int))=false:=fun j hj=>by simp;omega
 have c1:decide ((e.k:Int)=1)=false:=cc 1 (by omega)
 have c2:decide ((e.k:Int)=2)=false:=cc 2 (by omega)
 have c3:decide ((e.k:Int)=3)=false:=cc 3 (by omega)
 have c4:decide ((e.k:Int)=4)=false:=cc 4 (by omega)
 have c5:decide ((e.k:Int)=5)=false:=cc 5 (by omega)
 have c6:decide ((e.k:Int)=6)=false:=cc 6 (by omega)
 have c7:decide ((e.k:Int)=7)=false:=cc 7 (by omega)
 have c11:decide ((e.k:Int)=11)=false:=cc 11 (by omega)
 have c12:decide ((e.k:Int)=12)=false:=cc 12 (by omega)
 have c13:decide ((e.k:Int)=13)=false:=cc 13 (by omega)
 have c14:decide ((e.k:Int)=14)=false:=cc 14 (by omega)
 have hm2:min (aa H) uo=uo:=Nat.min_eq_right (by omega)
 have hzs:=fun c=>aO l1' c
 have hgc:=fun hp=>eW (keep:=CC.keep 74) (base:=aa H) (e:=uo) (v:=AtF.av ⟨false,0,v⟩) (hp:=hp) (by omega)
 simp only[z74,jO,kr,jV,ks,nH,pg,tu,qB,uv,F4,Fq,EE,Ce,FV,SIM,ST0,ST1,ST2,ST3,ST4,e0,e1,e2,e3,hbx,m0,hA,hm2,l1',hzs,hgc,c1,c2,c3,c4,c5,c6,c7,c11,c12,c13,c14,EXS,Nat.reduceAdd,Nat.reduceLeDiff]
theorem Fh (m:ia M){ext:Ex→PS→Option (AtF × PS)}(hx:∀ e p a p',ext e p=some (a,p')→p.w≤p'.w)(hx2:∀ e p a p',ext e p=some (a,p')→p.nm≤p'.nm)(hb:mc base)
  (hext:∀ (k:Nat) (e:Ex),(Nat.beq e.k 13 || Nat.beq e.k 14)=true→sizeE e < 90000→lx M uo bo so vo fo LV d (l5 vm) fm base (dD vm ext (k + 1)) e) :
  ∀ (k:Nat)(e:Ex),sizeE e < 90000→lx M uo bo so vo fo LV d (l5 vm) fm base (dD vm ext k) e:=by
 intro k
 induction k with
 | zero=>intro e he H u a p' h;cases h
 | succ k ih =>
   intro e he;have hsk:=jd e;have hlk:=sizeL_len e.kids;have ihk:∀ a ∈ e.kids,lx M uo bo so vo fo LV d (l5 vm) fm base (dD vm ext k) a:=fun a ha=>ih a (by have:=iO ha;omega)
   cases h1:(Nat.beq e.k 1 || Nat.beq e.k 2) with
   | true=>exact AI m ext k h1
   | false =>
     cases h3:Nat.beq e.k 3 with
     | true=>exact Ho m ext k (Nat.eq_of_beq_eq_true h3)
     | false =>
       cases h4:vT e.k with
       | true=>exact KB m hx hb k h4 (by omega) ihk
       | false =>
         cases h8:Nat.beq e.k 8 with
         | true =>
           intro H u a p' hxx C hw;have hk8:=Nat.eq_of_beq_eq_true h8;simp only[dD,h1,h3,h4,h8,cond_true,cond_false] at hxx
           split at hxx
           ·rename_i a0 b0 p1 hat;simp only[SJ] at hxx;have hpw:=Jk p1 [105,102] [⟨false,0,u.p.vars⟩,a0,b0];rw[hxx] at hpw;simp only at hpw;obtain ⟨H1,u1,hA,U1,G1,hp1,S1⟩:=rV m (ko hx k) hb hk8 (by omega) ihk hat (C.ap [dK e,zA]) (by omega)
            obtain ⟨H',hR,U',G'⟩:=sc m (.inl hk8) C hA U1 G1;have hfst:=congrArg Prod.fst hxx;have hsnd:=congrArg Prod.snd hxx;simp only[PS.eq] at hfst;refine ⟨H',u1,uo,by rw[← hfst];exact hR,U',G',by rw[hp1];exact hsnd,S1,.inr rfl⟩
           ·cases hxx
         | false =>
           cases h9:(Nat.beq e.k 9 || Nat.beq e.k 10) with
           | true =>
             intro H u a p' hxx C hw
             have hk9:e.k=9∨e.k=10:=by
              rw[Bool.or_eq_true] at h9;exact h9.imp Nat.eq_of_beq_eq_true Nat.eq_of_beq_eq_true
             simp only[dD,h1,h3,h4,h8,h9,cond_true,cond_false] at hxx
             split at hxx
             ·rename_i x hl
              split at hxx
              ·rename_i a0 p1 hpx;simp only[SJ,PJ] at hxx;obtain ⟨rfl,rfl⟩:=hxx;have hmem:x ∈ e.kids:=List.mem_of_getLast? hl;obtain ⟨H1,u1,hA,U1,G1,hp1,S1⟩:=z3 m (ko hx k) (BY hx2 k) hb h9 (by omega) hl (ihk x hmem) hpx (C.ap [dK e,zA]) hw
               obtain ⟨H',hR,U',G'⟩:=sc m (.inr hk9) C hA U1 G1;exact ⟨H',u1,uo,hR,U',G',hp1,S1,.inr rfl⟩
              ·cases hxx
             ·cases hxx
           | false =>
             cases h13:(Nat.beq e.k 13 || Nat.beq e.k 14) with
             | true=>exact hext k e h13 he
             | false =>
               intro H u a p' hxx;simp only[dD,h1,h3,h4,h8,h9,h13,cond_false] at hxx;cases hxx
end
end Go.Proofs
